/- A part. -/
import Derived.Test.YtdlmpmilnbhmgaaGreatDoorWf
set_option linter.all false
open List renaming length->I
set_option maxRecDepth 100000
set_option maxHeartbeats 16000000
namespace Go.Abs
variable{n j F:Nat}{g:dC}{f:aI}
section
variable {h:Nat}
def acn{e:Nat}(h:e<n):(e+1)%n=if e+1=n then 0 else e+1:=by
 by_cases c:e+1=n
 .rw[aM c,c,GC]
 rw[aD c,o_ J]
def abx{m:Nat}(h:m<n):(m+n-1)%n=if m=0 then n-1 else m-1:=by
 by_cases c:m=0
 .rw[aM c];subst c;rw[ka,o_ J]
 rw[aD c,show m+n-1=(m-1)+n by omega,Jg,o_ J]
def jq(f:h<=500000){e:Nat}(H:e<2*h)(c:e%2=0):bZ (jt h) (2*e)=4*h+2*e+1:=by rw[ab4 f H,acn H,aD (by omega:¬e+1=2*h),aD J,abx J,aD J];omega
def v2(f:h<=500000){e:Nat}(H:e<2*h)(c:e%2=1):∃q,q<2*h/\q%2=0/\(e+1<2*h->q=e+1)/\bZ (jt h) (2*e)=4*h+2*q:=by
 rw[ab4 f H,acn H];by_cases d:e+1=2*h
 .rw[aM d];exact⟨0,J,rfl,J,rfl⟩
 rw[aD d,aM J];exact⟨e+1,J,J,λ_=>rfl,rfl⟩
def v3(f:h<=500000){e:Nat}(H:e<2*h)(c:e%2=0):∃q,q<2*h/\q%2=1/\(1<=e->q=e-1)/\bZ (jt h) (2*e+1)=4*h+2*q+1:=by
 rw[VY f H,aM c,abx H];by_cases d:e=0
 .rw[aM d];exact⟨2*h-1,J,J,J,rfl⟩
 rw[aD d];exact⟨e-1,J,J,λ_=>rfl,rfl⟩
def v4(f:h<=500000){e:Nat}(H:e<2*h)(c:e%2=1):bZ (jt h) (2*e+1)=4*h+2*e:=by rw[VY f H,aD J]
end
def hM(l x:cO)(k:Nat):I (ey l x k)=I l+I x:=by simp only[ey,ep,iU,BO];omega
section
attribute [local go_sem ↓] GY Fg
def An{al:bP}{blk:aB}{id:Nat}{c:b_}(o:g=[]\/al.ok id)(hl:I g<=1000000)(X:∀e∈g,I e=7/\ ∀v∈e,v.norm=v)(h:aW id j 7 g (.one c) blk):
  ∃v A,ia S 117 [.one c] al blk v A/\AJ id j 7 g c blk v A:=by
 refine mU afM (gU rfl) ?_;rcases h with⟨rfl,H⟩|⟨aY,ab,H,hC⟩
 .cases H;have Q:IntKind.i64.wrap (((0:Nat):Int)-1)= -1:=U;have hz:¬((0:Int)< -1):=U;simp only[go_sem,P8,Q,ae,ao];refine cD (λk f A=>k=0/\f 2=aq 0/\f 3=aq (-1)/\A=blk) 0 0 (cH _) ?_ ?_
  .simp only[go_sem]
  rintro k f A _ ⟨rfl,H,q,rfl⟩
  simp only[go_sem,L9,H,q,hz,ae,ao];exact⟨rfl,.inl ⟨rfl,rfl⟩,λ_ _=>rfl⟩
 cases H;have o:=o.resolve_left aY;have Q:=oe (a:=I g) J;simp only[go_sem,P8,Q,ae,ao];refine cD (λk f A=>f 0=.one (.hsl id ab 7 0 (I g))/\f 2=aq k/\f 3=aq ((I g:Int)-1-(k:Int))/\ ∃fs,A id=(ab,some (.arr j 7 fs))/\sk g fs k/\c8 (· =id) blk A) 0 (I g) (bC _) ?_ ?_
 .simp only[go_sem];refine⟨rfl,aG,g,hC,sk.start g,c8.refl _ _⟩
 rintro k f A hk ⟨h0,H,q,fs,F,M,Y⟩
 by_cases au:k<I g-1-k
 .have e1:((I g:Int)-1-(k:Int))=((I g-1-k:Nat):Int):=J;rw[e1]at q;have x:((k:Int)<((I g-1-k:Nat):Int)):=J;have w1:=bJ (n:=k) J;have w2:IntKind.i64.wrap (((I g-1-k:Nat):Int)-1)=((I g:Int)-1-((k+1:Nat):Int)):=by
   rw[oe J];omega
  obtain⟨a,Z⟩:=bq (show k<I g by omega);obtain⟨b,T⟩:=bq (show I g-1-k<I g by omega);obtain⟨fa,fb,tY⟩:=M.step au Z T;obtain⟨la,m⟩:=X a (bY Z);obtain⟨lb,N⟩:=X b (bY T);obtain⟨x0,x1,x2,x3,x4,x5,x6,rfl⟩:=adE la;obtain⟨y0,y1,y2,y3,y4,y5,y6,rfl⟩:=adE lb;have IT:=m x0 aG;have S3:=m x1 aG;have L:=m x2 aG;have B:=m x3 aG;have y:=m x4 aG;have z:=m x5 aG;have u:=m x6 aG;have IU:=N y0 aG;have S4:=N y1 aG;have E:=N y2 aG;have D:=N y3 aG;have r:=N y4 aG;have R:=N y5 aG;have O:=N y6 aG;have jI:=M.len;have Bc:¬(k=I g-1-k):=J;have IH:¬(I g-1-k=k):=J;have l1:k<I fs:=J;have l2:I g-1-k<I fs:=J;have l3:k<I g:=J
  have l4:I g-1-k<I g:=J;simp only[go_sem,L9,h0,H,q,F,x,fa,fb,w1,w2,o,l1,l2,l3,l4,Bc,IH,IT,S3,L,B,y,z,u,IU,S4,E,D,r,R,O,lC,jc,ae,ao];refine⟨aw,_,rfl,tY,?_⟩;exact(Y.cQ rfl _).cQ rfl _
 have x:¬((k:Int)<(I g:Int)-1-(k:Int)):=J;simp only[go_sem,L9,h0,H,q,x,ae,ao];refine⟨rfl,?_,Y⟩;rw[M.done au]at F;exact .inr ⟨by simpa using aY,ab,by rw[j5],F⟩
def Am{Q:fp}{m:bD}{blk:aB}{os:en}{d:my}{f id z:Nat}{c:b_}(T:∀ {al:bP}{blk:aB},g=[]\/al.ok id->aW id j z g (.one c) blk->∃v A,ia S f [.one c] al blk v A/\AJ id j z g c blk v A)(H:aW id j z g (.one c) blk)
  (r:∀A,aW id j z g.reverse (.one c) A->(∀i,i≠id->A i=blk i)->gV S .all os Q (dx m d (.tup [])) A):iM S .all (.sc f [.one c]) d os Q m blk:=by
 refine sf (P:=AJ id j z g c blk) xt (T ?_ H) ?_
 .rcases Jb H with⟨h,_⟩|h
  .exact .inl h
  exact .inr (wY (by simp[h]))
 rintro v A ⟨rfl,q,n⟩
 exact r A q n
abbrev qe(x k:Nat)(aP:Int)(ov:Bool):aZ:=⟨⟨2,0,0,((x+k:Nat):Int),aP,ov⟩,false⟩
abbrev cU(ls:aI)(s t:Int)(o:Bool):cO:=[qe (aF af.aJ ls/2) 1 s o,qe (aF af.aJ ls/2) 2 t o]
abbrev gq(ls:aI)(s t:Int)(o:Bool):cO:=[qe (aF af.aJ ls/2) 2 t o,qe (aF af.aJ ls/2) 1 s o]
abbrev ki(F:Nat)(ls:aI)(d:Nat):Nat:=(gK F ls).getD d 0
abbrev oN(x:Nat)(aP:Int)(o:Bool):cO:=[qe x 1 aP o,qe x 2 (-aP) o]
abbrev mC(x:Nat)(aP:Int)(o same:Bool):cO:=if same then [qe x 2 (-aP) (!o),qe x 1 aP (!o)]else [qe x 1 aP (!o),qe x 2 (-aP) (!o)]
def gJ(f:aI)(A B:Nat)(l o h O:Bool):Option cO:=
 if !h&& !O then none
 else
  let aP:Int:=if o==(h==l)then 1 else -1
  let first:=oN (aF af.aJ f/2) aP o
  let g:=mC (aF af.aJ f/2) aP o h
  some (if A<B then ey (ey (a_ f) g B) first A else ey (ey (a_ f) first A) g B)
def Ax(F:Nat)(f:aI)(A B:Nat)(l o:Bool):Option cO:=
 if l then gJ f A B l o ((ki F f (2*B):Int)==(ki F f (2*A):Int)) ((ki F f (2*B+1):Int)==(ki F f (2*A):Int))
 else gJ f A B l o ((ki F f (2*B+1):Int)==(ki F f (2*A+1):Int)) ((ki F f (2*B):Int)==(ki F f (2*A+1):Int))
def JO{d:Nat}(h:d<2*I f):(gK F f)[d]?=some (ki F f d):=by obtain⟨j,H⟩:=bq (h:=gK F f) (k:=d) (by rw[AH];exact h);rw[ki,dT,H];rfl
def amh(a5:ch F f){A B:Nat}(ha:A<I f)(hb:B<I f)(gu:A≠B){k c:Int}{l o:Bool}{aP:Int}:
  aC S 80 [.one (.p (df F f)),dp k A B c l o aP] (pZ (Ax F f A B l o)):=by
 have a4:=a5.len;have fY:=a5.cr;have bd:=bR f;have pz:=AH F f;have an:=lR (a:=A) J;have a2:=lR (a:=B) J;have az:IntKind.i64.wrap (((2*A:Nat):Int)+0)=((2*A:Nat):Int):=(j_ (x:=((2*A:Nat):Int)+0) J J).trans J;have aE:=bJ (n:=2*A) J;have ak:IntKind.i64.wrap (((2*B:Nat):Int)+0)=((2*B:Nat):Int):=(j_ (x:=((2*B:Nat):Int)+0) J J).trans J;have a3:=bJ (n:=2*B) J;have ay:IntKind.i64.wrap (((2*B+1:Nat):Int)-0)=((2*B+1:Nat):Int):=(j_ (x:=((2*B+1:Nat):Int)-0) J J).trans J;have aj:IntKind.i64.wrap (((2*B+1:Nat):Int)-1)=((2*B:Nat):Int):=(j_ (x:=((2*B+1:Nat):Int)-1) J J).trans J;have ad:2*A<I (gK F f):=J;have aL:2*A+1<I (gK F f):=J
 have ag:2*B<I (gK F f):=J;have am:2*B+1<I (gK F f):=J;have ap:=fC (JO (F:=F) (f:=f) (d:=2*A) J);have aY:=fC (JO (F:=F) (f:=f) (d:=2*A+1) J);have ab:=fC (JO (F:=F) (f:=f) (d:=2*B) J);have ar:=fC (JO (F:=F) (f:=f) (d:=2*B+1) J);have dJ:S.shared 117:=ah;have k1:((1:Nat):Int)=1:=rfl;have k2:((2:Nat):Int)=2:=rfl;have vr:=λov=>DS F (aF af.aJ f/2) 1 ov (.sl (bX (a_ f))) (.sl (g_ (cZ F f))) (.sl (aS (gK F f))) (.int .i64 (aF af.aN f:Nat)) (.sl (aS (eF f F))) 1 J J;have vt:=λov=>DS F (aF af.aJ f/2) (-1) ov (.sl (bX (a_ f))) (.sl (g_ (cZ F f))) (.sl (aS (gK F f))) (.int .i64 (aF af.aN f:Nat)) (.sl (aS (eF f F))) 2 J J
 have zY:=λov=>DS F (aF af.aJ f/2) (-1) ov (.sl (bX (a_ f))) (.sl (g_ (cZ F f))) (.sl (aS (gK F f))) (.int .i64 (aF af.aN f:Nat)) (.sl (aS (eF f F))) 1 J J;have zZ:=λov=>DS F (aF af.aJ f/2) 1 ov (.sl (bX (a_ f))) (.sl (g_ (cZ F f))) (.sl (aS (gK F f))) (.int .i64 (aF af.aN f:Nat)) (.sl (aS (eF f F))) 2 J J;simp only[k1,k2]at vr vt zY zZ;have rz:IntKind.i64.wrap (0-1)= -1:=U;have rA:IntKind.i64.wrap (0 - -1)=1:=U
 have D:∀blk:aB,∀s,∀x1 x2 x3 x4 x5 x6 x7:PV,d_ blk [] s ((RV.agg [.p x1,.p x2,.p x3,.p x4,.p x5,.p x6,.p x7]).eU (S.lone s))=some (.agg [.p x1,.p x2,.p x3,.p x4,.p x5,.p x6,.p x7],[]):=λblk s x1 x2 x3 x4 x5 x6 x7=>by cases S.lone s<;>rfl
 have q:=And.intro az (And.intro aE (And.intro ak (And.intro a3 (And.intro ay (And.intro aj (And.intro an (And.intro a2 (And.intro ad (And.intro aL (And.intro ag (And.intro am (And.intro ap (And.intro aY (And.intro ab ar))))))))))))));unfold Ax;generalize ki F f (2*A)=a0 at*;generalize ki F f (2*A+1)=a1 at*;generalize ki F f (2*B)=b0 at*;generalize ki F f (2*B+1)=b1 at*;refine bG ar5 ?_;cases l with
 |true=>
  rw[aM rfl];cases o with
  |true=>
   simp only[go_sem,GU,q];refine⟨aw,aw,?_⟩;refine oH [0,3,4,5,6,7,8,9,40] λe1 eH=>?_;simp only[go_sem]at eH;cases aa:((b0:Int)==(a0:Int))with
   |true=>
    simp only[go_sem,q,eH,aa];refine⟨aw,?_⟩;by_cases Z:A<B
    .have r:((A:Int)<(B:Int)):=J;have L:gJ f A B true true true ((b1:Int)==(a0:Int))=some (ey (ey (a_ f) (gq f 1 (-1) false) B) (cU f 1 (-1) true) A):=by simp[gJ,oN,mC,Z,cU,gq]
     rw[L];simp only[go_sem,q,eH,aa,pL,fT (vr _) (D _ _ _ _ _ _ _ _ _),fT (vt _) (D _ _ _ _ _ _ _ _ _),rz,rA,r,dJ,gv];refine⟨aw,aw,?_⟩;refine Am (f:=117) (g:=bX (cU f 1 (-1) false)) (id:=5120704832) (j:=h_) (z:=7) (λo h=>An o aG (yN _) h) (.inr ⟨aG,_,rfl,by simp only[bj,Nat.reduceEqDiff,if_true,if_false];rfl⟩) λY fI l6=>?_;have R:=l6 5120000000 U;have M:=l6 5120640704 U;simp only[go_sem,eH,aa]at R M;rcases fI with⟨e,_⟩|⟨_,gg,e,E⟩
     .simp at e
     cases e;rw[show(bX (cU f 1 (-1) false)).reverse=bX (gq f 1 (-1) false)from rfl]at E;simp only[aZ.ps,ew,jn]at E;simp only[go_sem,q,eH,aa,R,M,E,r,gv,j5];refine iN (iv (a_ f) (gq f 1 (-1) false) B J J aG) (by kernel_rfl:S.lone 5120960448=false) (.inr (ff (gb _))) λc1 bp jq g1 m X=>?_
     obtain⟨r1,N,y⟩:=g1.dS;have u:=m 5120000000 U;have v:=m 5120640704 U;have Q:=m 5120704832 U;simp only[go_sem,eH,aa,R,M,E]at u v Q;simp only[go_sem,q,eH,aa,u,v,Q,N,r,gv];refine iN (iv (ey (a_ f) (gq f 1 (-1) false) B) (cU f 1 (-1) true) A (by rw[hM];omega) (by rw[hM];simp;omega) aG) (by kernel_rfl:S.lone 5120960704=false) (.inr (ff (gb _))) λc2 aV v2 O bc T=>?_;simp only[go_sem];refine⟨?_,iW O⟩;rcases y with rfl|rfl<;>rcases X with rfl|rfl<;>rcases T with rfl|rfl<;>kernel_rfl
    have r:¬((A:Int)<(B:Int)):=J;have L:gJ f A B true true true ((b1:Int)==(a0:Int))=some (ey (ey (a_ f) (cU f 1 (-1) true) A) (gq f 1 (-1) false) B):=by simp[gJ,oN,mC,Z,cU,gq]
    rw[L];simp only[go_sem,q,eH,aa,pL,fT (vr _) (D _ _ _ _ _ _ _ _ _),fT (vt _) (D _ _ _ _ _ _ _ _ _),rz,rA,r,dJ,gv];refine⟨aw,aw,?_⟩;refine Am (f:=117) (g:=bX (cU f 1 (-1) false)) (id:=5120704832) (j:=h_) (z:=7) (λo h=>An o aG (yN _) h) (.inr ⟨aG,_,rfl,by simp only[bj,Nat.reduceEqDiff,if_true,if_false];rfl⟩) λY fI l6=>?_;have R:=l6 5120000000 U;have M:=l6 5120640704 U;simp only[go_sem,eH,aa]at R M;rcases fI with⟨e,_⟩|⟨_,gg,e,E⟩
    .simp at e
    cases e;rw[show(bX (cU f 1 (-1) false)).reverse=bX (gq f 1 (-1) false)from rfl]at E;simp only[aZ.ps,ew,jn]at E;simp only[go_sem,q,eH,aa,R,M,E,r,gv,j5];refine iN (iv (a_ f) (cU f 1 (-1) true) A J J aG) (by kernel_rfl:S.lone 5121024448=false) (.inr (ff (gb _))) λc1 bp jq g1 m X=>?_
    obtain⟨r1,N,y⟩:=g1.dS;have u:=m 5120000000 U;have v:=m 5120640704 U;have Q:=m 5120704832 U;simp only[go_sem,eH,aa,R,M,E]at u v Q;simp only[go_sem,q,eH,aa,u,v,Q,N,r,gv];refine iN (iv (ey (a_ f) (cU f 1 (-1) true) A) (gq f 1 (-1) false) B (by rw[hM];omega) (by rw[hM];simp;omega) aG) (by kernel_rfl:S.lone 5121024704=false) (.inr (ff (gb _))) λc2 aV v2 O bc T=>?_;simp only[go_sem];refine⟨?_,iW O⟩;rcases y with rfl|rfl<;>rcases X with rfl|rfl<;>rcases T with rfl|rfl<;>kernel_rfl
   |false=>
    cases ho:((b1:Int)==(a0:Int))with
    |false=>
     have H:((b1:Int)!=(a0:Int)):=by simp only[bne,ho];rfl
     simp only[go_sem,q,eH,aa,H];first|rfl|exact aw|exact⟨aw,rfl⟩|exact⟨aw,aw,rfl⟩
    |true=>
     have H:((b1:Int)!=(a0:Int))=false:=by simp only[bne,ho];rfl
     simp only[go_sem,q,eH,aa,H];refine⟨aw,?_⟩;by_cases Z:A<B
     .have r:((A:Int)<(B:Int)):=J;have L:gJ f A B true true false true=some (ey (ey (a_ f) (cU f (-1) 1 false) B) (cU f (-1) 1 true) A):=by simp[gJ,oN,mC,Z,cU,gq]
      rw[L];simp only[go_sem,q,eH,aa,H,pL,fT (zY _) (D _ _ _ _ _ _ _ _ _),fT (zZ _) (D _ _ _ _ _ _ _ _ _),rz,rA,r,dJ,gv];refine⟨aw,aw,?_⟩;refine iN (iv (a_ f) (cU f (-1) 1 false) B J J aG) (by kernel_rfl:S.lone 5120960448=false) (.inr (ff (gb _))) λc1 bp jq g1 m X=>?_;obtain⟨r1,N,y⟩:=g1.dS;have u:=m 5120000000 U;have v:=m 5120640704 U;have Q:=m 5120704832 U;simp only[go_sem,eH,aa,H]at u v Q;simp only[go_sem,q,eH,aa,H,u,v,Q,N,r,gv];refine iN (iv (ey (a_ f) (cU f (-1) 1 false) B) (cU f (-1) 1 true) A (by rw[hM];omega) (by rw[hM];simp;omega) aG) (by kernel_rfl:S.lone 5120960704=false) (.inr (ff (gb _))) λc2 aV v2 O bc T=>?_
      simp only[go_sem];refine⟨?_,iW O⟩;rcases y with rfl|rfl<;>rcases X with rfl|rfl<;>rcases T with rfl|rfl<;>kernel_rfl
     have r:¬((A:Int)<(B:Int)):=J;have L:gJ f A B true true false true=some (ey (ey (a_ f) (cU f (-1) 1 true) A) (cU f (-1) 1 false) B):=by simp[gJ,oN,mC,Z,cU,gq]
     rw[L];simp only[go_sem,q,eH,aa,H,pL,fT (zY _) (D _ _ _ _ _ _ _ _ _),fT (zZ _) (D _ _ _ _ _ _ _ _ _),rz,rA,r,dJ,gv];refine⟨aw,aw,?_⟩;refine iN (iv (a_ f) (cU f (-1) 1 true) A J J aG) (by kernel_rfl:S.lone 5121024448=false) (.inr (ff (gb _))) λc1 bp jq g1 m X=>?_;obtain⟨r1,N,y⟩:=g1.dS;have u:=m 5120000000 U;have v:=m 5120640704 U;have Q:=m 5120704832 U;simp only[go_sem,eH,aa,H]at u v Q;simp only[go_sem,q,eH,aa,H,u,v,Q,N,r,gv];refine iN (iv (ey (a_ f) (cU f (-1) 1 true) A) (cU f (-1) 1 false) B (by rw[hM];omega) (by rw[hM];simp;omega) aG) (by kernel_rfl:S.lone 5121024704=false) (.inr (ff (gb _))) λc2 aV v2 O bc T=>?_
     simp only[go_sem];refine⟨?_,iW O⟩;rcases y with rfl|rfl<;>rcases X with rfl|rfl<;>rcases T with rfl|rfl<;>kernel_rfl
  |false=>
   simp only[go_sem,GU,q];refine⟨aw,aw,?_⟩;refine oH [0,3,4,5,6,7,8,9,40] λe2 dU=>?_;simp only[go_sem]at dU;cases aa:((b0:Int)==(a0:Int))with
   |true=>
    simp only[go_sem,q,dU,aa];refine⟨aw,?_⟩;by_cases Z:A<B
    .have r:((A:Int)<(B:Int)):=J;have L:gJ f A B true false true ((b1:Int)==(a0:Int))=some (ey (ey (a_ f) (gq f (-1) 1 true) B) (cU f (-1) 1 false) A):=by simp[gJ,oN,mC,Z,cU,gq]
     rw[L];simp only[go_sem,q,dU,aa,pL,fT (zY _) (D _ _ _ _ _ _ _ _ _),fT (zZ _) (D _ _ _ _ _ _ _ _ _),rz,rA,r,dJ,gv];refine⟨aw,aw,?_⟩;refine Am (f:=117) (g:=bX (cU f (-1) 1 true)) (id:=5120704832) (j:=h_) (z:=7) (λo h=>An o aG (yN _) h) (.inr ⟨aG,_,rfl,by simp only[bj,Nat.reduceEqDiff,if_true,if_false];rfl⟩) λY fI l6=>?_;have R:=l6 5120000000 U;have M:=l6 5120640704 U;simp only[go_sem,dU,aa]at R M;rcases fI with⟨e,_⟩|⟨_,gg,e,E⟩
     .simp at e
     cases e;rw[show(bX (cU f (-1) 1 true)).reverse=bX (gq f (-1) 1 true)from rfl]at E;simp only[aZ.ps,ew,jn]at E;simp only[go_sem,q,dU,aa,R,M,E,r,gv,j5];refine iN (iv (a_ f) (gq f (-1) 1 true) B J J aG) (by kernel_rfl:S.lone 5120960448=false) (.inr (ff (gb _))) λc1 bp jq g1 m X=>?_
     obtain⟨r1,N,y⟩:=g1.dS;have u:=m 5120000000 U;have v:=m 5120640704 U;have Q:=m 5120704832 U;simp only[go_sem,dU,aa,R,M,E]at u v Q;simp only[go_sem,q,dU,aa,u,v,Q,N,r,gv];refine iN (iv (ey (a_ f) (gq f (-1) 1 true) B) (cU f (-1) 1 false) A (by rw[hM];omega) (by rw[hM];simp;omega) aG) (by kernel_rfl:S.lone 5120960704=false) (.inr (ff (gb _))) λc2 aV v2 O bc T=>?_;simp only[go_sem];refine⟨?_,iW O⟩;rcases y with rfl|rfl<;>rcases X with rfl|rfl<;>rcases T with rfl|rfl<;>kernel_rfl
    have r:¬((A:Int)<(B:Int)):=J;have L:gJ f A B true false true ((b1:Int)==(a0:Int))=some (ey (ey (a_ f) (cU f (-1) 1 false) A) (gq f (-1) 1 true) B):=by simp[gJ,oN,mC,Z,cU,gq]
    rw[L];simp only[go_sem,q,dU,aa,pL,fT (zY _) (D _ _ _ _ _ _ _ _ _),fT (zZ _) (D _ _ _ _ _ _ _ _ _),rz,rA,r,dJ,gv];refine⟨aw,aw,?_⟩;refine Am (f:=117) (g:=bX (cU f (-1) 1 true)) (id:=5120704832) (j:=h_) (z:=7) (λo h=>An o aG (yN _) h) (.inr ⟨aG,_,rfl,by simp only[bj,Nat.reduceEqDiff,if_true,if_false];rfl⟩) λY fI l6=>?_;have R:=l6 5120000000 U;have M:=l6 5120640704 U;simp only[go_sem,dU,aa]at R M;rcases fI with⟨e,_⟩|⟨_,gg,e,E⟩
    .simp at e
    cases e;rw[show(bX (cU f (-1) 1 true)).reverse=bX (gq f (-1) 1 true)from rfl]at E;simp only[aZ.ps,ew,jn]at E;simp only[go_sem,q,dU,aa,R,M,E,r,gv,j5];refine iN (iv (a_ f) (cU f (-1) 1 false) A J J aG) (by kernel_rfl:S.lone 5121024448=false) (.inr (ff (gb _))) λc1 bp jq g1 m X=>?_
    obtain⟨r1,N,y⟩:=g1.dS;have u:=m 5120000000 U;have v:=m 5120640704 U;have Q:=m 5120704832 U;simp only[go_sem,dU,aa,R,M,E]at u v Q;simp only[go_sem,q,dU,aa,u,v,Q,N,r,gv];refine iN (iv (ey (a_ f) (cU f (-1) 1 false) A) (gq f (-1) 1 true) B (by rw[hM];omega) (by rw[hM];simp;omega) aG) (by kernel_rfl:S.lone 5121024704=false) (.inr (ff (gb _))) λc2 aV v2 O bc T=>?_;simp only[go_sem];refine⟨?_,iW O⟩;rcases y with rfl|rfl<;>rcases X with rfl|rfl<;>rcases T with rfl|rfl<;>kernel_rfl
   |false=>
    cases ho:((b1:Int)==(a0:Int))with
    |false=>
     have H:((b1:Int)!=(a0:Int)):=by simp only[bne,ho];rfl
     simp only[go_sem,q,dU,aa,H];first|rfl|exact aw|exact⟨aw,rfl⟩|exact⟨aw,aw,rfl⟩
    |true=>
     have H:((b1:Int)!=(a0:Int))=false:=by simp only[bne,ho];rfl
     simp only[go_sem,q,dU,aa,H];refine⟨aw,?_⟩;by_cases Z:A<B
     .have r:((A:Int)<(B:Int)):=J;have L:gJ f A B true false false true=some (ey (ey (a_ f) (cU f 1 (-1) true) B) (cU f 1 (-1) false) A):=by simp[gJ,oN,mC,Z,cU,gq]
      rw[L];simp only[go_sem,q,dU,aa,H,pL,fT (vr _) (D _ _ _ _ _ _ _ _ _),fT (vt _) (D _ _ _ _ _ _ _ _ _),rz,rA,r,dJ,gv];refine⟨aw,aw,?_⟩;refine iN (iv (a_ f) (cU f 1 (-1) true) B J J aG) (by kernel_rfl:S.lone 5120960448=false) (.inr (ff (gb _))) λc1 bp jq g1 m X=>?_;obtain⟨r1,N,y⟩:=g1.dS;have u:=m 5120000000 U;have v:=m 5120640704 U;have Q:=m 5120704832 U;simp only[go_sem,dU,aa,H]at u v Q;simp only[go_sem,q,dU,aa,H,u,v,Q,N,r,gv];refine iN (iv (ey (a_ f) (cU f 1 (-1) true) B) (cU f 1 (-1) false) A (by rw[hM];omega) (by rw[hM];simp;omega) aG) (by kernel_rfl:S.lone 5120960704=false) (.inr (ff (gb _))) λc2 aV v2 O bc T=>?_
      simp only[go_sem];refine⟨?_,iW O⟩;rcases y with rfl|rfl<;>rcases X with rfl|rfl<;>rcases T with rfl|rfl<;>kernel_rfl
     have r:¬((A:Int)<(B:Int)):=J;have L:gJ f A B true false false true=some (ey (ey (a_ f) (cU f 1 (-1) false) A) (cU f 1 (-1) true) B):=by simp[gJ,oN,mC,Z,cU,gq]
     rw[L];simp only[go_sem,q,dU,aa,H,pL,fT (vr _) (D _ _ _ _ _ _ _ _ _),fT (vt _) (D _ _ _ _ _ _ _ _ _),rz,rA,r,dJ,gv];refine⟨aw,aw,?_⟩;refine iN (iv (a_ f) (cU f 1 (-1) false) A J J aG) (by kernel_rfl:S.lone 5121024448=false) (.inr (ff (gb _))) λc1 bp jq g1 m X=>?_;obtain⟨r1,N,y⟩:=g1.dS;have u:=m 5120000000 U;have v:=m 5120640704 U;have Q:=m 5120704832 U;simp only[go_sem,dU,aa,H]at u v Q;simp only[go_sem,q,dU,aa,H,u,v,Q,N,r,gv];refine iN (iv (ey (a_ f) (cU f 1 (-1) false) A) (cU f 1 (-1) true) B (by rw[hM];omega) (by rw[hM];simp;omega) aG) (by kernel_rfl:S.lone 5121024704=false) (.inr (ff (gb _))) λc2 aV v2 O bc T=>?_
     simp only[go_sem];refine⟨?_,iW O⟩;rcases y with rfl|rfl<;>rcases X with rfl|rfl<;>rcases T with rfl|rfl<;>kernel_rfl
 |false=>
  rw[aD U];cases o with
  |true=>
   simp only[go_sem,GU,q];refine⟨aw,aw,?_⟩;refine oH [0,3,4,5,6,7,8,9,40] λe3 eh=>?_;simp only[go_sem]at eh;cases aa:((b1:Int)==(a1:Int))with
   |true=>
    simp only[go_sem,q,eh,aa];refine⟨aw,?_⟩;by_cases Z:A<B
    .have r:((A:Int)<(B:Int)):=J;have L:gJ f A B false true true ((b0:Int)==(a1:Int))=some (ey (ey (a_ f) (gq f (-1) 1 false) B) (cU f (-1) 1 true) A):=by simp[gJ,oN,mC,Z,cU,gq]
     rw[L];simp only[go_sem,q,eh,aa,pL,fT (zY _) (D _ _ _ _ _ _ _ _ _),fT (zZ _) (D _ _ _ _ _ _ _ _ _),rz,rA,r,dJ,gv];refine⟨aw,aw,?_⟩;refine Am (f:=117) (g:=bX (cU f (-1) 1 false)) (id:=5120704832) (j:=h_) (z:=7) (λo h=>An o aG (yN _) h) (.inr ⟨aG,_,rfl,by simp only[bj,Nat.reduceEqDiff,if_true,if_false];rfl⟩) λY fI l6=>?_;have R:=l6 5120000000 U;have M:=l6 5120640704 U;simp only[go_sem,eh,aa]at R M;rcases fI with⟨e,_⟩|⟨_,gg,e,E⟩
     .simp at e
     cases e;rw[show(bX (cU f (-1) 1 false)).reverse=bX (gq f (-1) 1 false)from rfl]at E;simp only[aZ.ps,ew,jn]at E;simp only[go_sem,q,eh,aa,R,M,E,r,gv,j5];refine iN (iv (a_ f) (gq f (-1) 1 false) B J J aG) (by kernel_rfl:S.lone 5120960448=false) (.inr (ff (gb _))) λc1 bp jq g1 m X=>?_
     obtain⟨r1,N,y⟩:=g1.dS;have u:=m 5120000000 U;have v:=m 5120640704 U;have Q:=m 5120704832 U;simp only[go_sem,eh,aa,R,M,E]at u v Q;simp only[go_sem,q,eh,aa,u,v,Q,N,r,gv];refine iN (iv (ey (a_ f) (gq f (-1) 1 false) B) (cU f (-1) 1 true) A (by rw[hM];omega) (by rw[hM];simp;omega) aG) (by kernel_rfl:S.lone 5120960704=false) (.inr (ff (gb _))) λc2 aV v2 O bc T=>?_;simp only[go_sem];refine⟨?_,iW O⟩;rcases y with rfl|rfl<;>rcases X with rfl|rfl<;>rcases T with rfl|rfl<;>kernel_rfl
    have r:¬((A:Int)<(B:Int)):=J;have L:gJ f A B false true true ((b0:Int)==(a1:Int))=some (ey (ey (a_ f) (cU f (-1) 1 true) A) (gq f (-1) 1 false) B):=by simp[gJ,oN,mC,Z,cU,gq]
    rw[L];simp only[go_sem,q,eh,aa,pL,fT (zY _) (D _ _ _ _ _ _ _ _ _),fT (zZ _) (D _ _ _ _ _ _ _ _ _),rz,rA,r,dJ,gv];refine⟨aw,aw,?_⟩;refine Am (f:=117) (g:=bX (cU f (-1) 1 false)) (id:=5120704832) (j:=h_) (z:=7) (λo h=>An o aG (yN _) h) (.inr ⟨aG,_,rfl,by simp only[bj,Nat.reduceEqDiff,if_true,if_false];rfl⟩) λY fI l6=>?_;have R:=l6 5120000000 U;have M:=l6 5120640704 U;simp only[go_sem,eh,aa]at R M;rcases fI with⟨e,_⟩|⟨_,gg,e,E⟩
    .simp at e
    cases e;rw[show(bX (cU f (-1) 1 false)).reverse=bX (gq f (-1) 1 false)from rfl]at E;simp only[aZ.ps,ew,jn]at E;simp only[go_sem,q,eh,aa,R,M,E,r,gv,j5];refine iN (iv (a_ f) (cU f (-1) 1 true) A J J aG) (by kernel_rfl:S.lone 5121024448=false) (.inr (ff (gb _))) λc1 bp jq g1 m X=>?_
    obtain⟨r1,N,y⟩:=g1.dS;have u:=m 5120000000 U;have v:=m 5120640704 U;have Q:=m 5120704832 U;simp only[go_sem,eh,aa,R,M,E]at u v Q;simp only[go_sem,q,eh,aa,u,v,Q,N,r,gv];refine iN (iv (ey (a_ f) (cU f (-1) 1 true) A) (gq f (-1) 1 false) B (by rw[hM];omega) (by rw[hM];simp;omega) aG) (by kernel_rfl:S.lone 5121024704=false) (.inr (ff (gb _))) λc2 aV v2 O bc T=>?_;simp only[go_sem];refine⟨?_,iW O⟩;rcases y with rfl|rfl<;>rcases X with rfl|rfl<;>rcases T with rfl|rfl<;>kernel_rfl
   |false=>
    cases ho:((b0:Int)==(a1:Int))with
    |false=>
     have H:((b0:Int)!=(a1:Int)):=by simp only[bne,ho];rfl
     simp only[go_sem,q,eh,aa,H];first|rfl|exact aw|exact⟨aw,rfl⟩|exact⟨aw,aw,rfl⟩
    |true=>
     have H:((b0:Int)!=(a1:Int))=false:=by simp only[bne,ho];rfl
     simp only[go_sem,q,eh,aa,H];refine⟨aw,?_⟩;by_cases Z:A<B
     .have r:((A:Int)<(B:Int)):=J;have L:gJ f A B false true false true=some (ey (ey (a_ f) (cU f 1 (-1) false) B) (cU f 1 (-1) true) A):=by simp[gJ,oN,mC,Z,cU,gq]
      rw[L];simp only[go_sem,q,eh,aa,H,pL,fT (vr _) (D _ _ _ _ _ _ _ _ _),fT (vt _) (D _ _ _ _ _ _ _ _ _),rz,rA,r,dJ,gv];refine⟨aw,aw,?_⟩;refine iN (iv (a_ f) (cU f 1 (-1) false) B J J aG) (by kernel_rfl:S.lone 5120960448=false) (.inr (ff (gb _))) λc1 bp jq g1 m X=>?_;obtain⟨r1,N,y⟩:=g1.dS;have u:=m 5120000000 U;have v:=m 5120640704 U;have Q:=m 5120704832 U;simp only[go_sem,eh,aa,H]at u v Q;simp only[go_sem,q,eh,aa,H,u,v,Q,N,r,gv];refine iN (iv (ey (a_ f) (cU f 1 (-1) false) B) (cU f 1 (-1) true) A (by rw[hM];omega) (by rw[hM];simp;omega) aG) (by kernel_rfl:S.lone 5120960704=false) (.inr (ff (gb _))) λc2 aV v2 O bc T=>?_
      simp only[go_sem];refine⟨?_,iW O⟩;rcases y with rfl|rfl<;>rcases X with rfl|rfl<;>rcases T with rfl|rfl<;>kernel_rfl
     have r:¬((A:Int)<(B:Int)):=J;have L:gJ f A B false true false true=some (ey (ey (a_ f) (cU f 1 (-1) true) A) (cU f 1 (-1) false) B):=by simp[gJ,oN,mC,Z,cU,gq]
     rw[L];simp only[go_sem,q,eh,aa,H,pL,fT (vr _) (D _ _ _ _ _ _ _ _ _),fT (vt _) (D _ _ _ _ _ _ _ _ _),rz,rA,r,dJ,gv];refine⟨aw,aw,?_⟩;refine iN (iv (a_ f) (cU f 1 (-1) true) A J J aG) (by kernel_rfl:S.lone 5121024448=false) (.inr (ff (gb _))) λc1 bp jq g1 m X=>?_;obtain⟨r1,N,y⟩:=g1.dS;have u:=m 5120000000 U;have v:=m 5120640704 U;have Q:=m 5120704832 U;simp only[go_sem,eh,aa,H]at u v Q;simp only[go_sem,q,eh,aa,H,u,v,Q,N,r,gv];refine iN (iv (ey (a_ f) (cU f 1 (-1) true) A) (cU f 1 (-1) false) B (by rw[hM];omega) (by rw[hM];simp;omega) aG) (by kernel_rfl:S.lone 5121024704=false) (.inr (ff (gb _))) λc2 aV v2 O bc T=>?_
     simp only[go_sem];refine⟨?_,iW O⟩;rcases y with rfl|rfl<;>rcases X with rfl|rfl<;>rcases T with rfl|rfl<;>kernel_rfl
  |false=>
   simp only[go_sem,GU,q];refine⟨aw,aw,?_⟩;refine oH [0,3,4,5,6,7,8,9,40] λe4 fh=>?_;simp only[go_sem]at fh;cases aa:((b1:Int)==(a1:Int))with
   |true=>
    simp only[go_sem,q,fh,aa];refine⟨aw,?_⟩;by_cases Z:A<B
    .have r:((A:Int)<(B:Int)):=J;have L:gJ f A B false false true ((b0:Int)==(a1:Int))=some (ey (ey (a_ f) (gq f 1 (-1) true) B) (cU f 1 (-1) false) A):=by simp[gJ,oN,mC,Z,cU,gq]
     rw[L];simp only[go_sem,q,fh,aa,pL,fT (vr _) (D _ _ _ _ _ _ _ _ _),fT (vt _) (D _ _ _ _ _ _ _ _ _),rz,rA,r,dJ,gv];refine⟨aw,aw,?_⟩;refine Am (f:=117) (g:=bX (cU f 1 (-1) true)) (id:=5120704832) (j:=h_) (z:=7) (λo h=>An o aG (yN _) h) (.inr ⟨aG,_,rfl,by simp only[bj,Nat.reduceEqDiff,if_true,if_false];rfl⟩) λY fI l6=>?_;have R:=l6 5120000000 U;have M:=l6 5120640704 U;simp only[go_sem,fh,aa]at R M;rcases fI with⟨e,_⟩|⟨_,gg,e,E⟩
     .simp at e
     cases e;rw[show(bX (cU f 1 (-1) true)).reverse=bX (gq f 1 (-1) true)from rfl]at E;simp only[aZ.ps,ew,jn]at E;simp only[go_sem,q,fh,aa,R,M,E,r,gv,j5];refine iN (iv (a_ f) (gq f 1 (-1) true) B J J aG) (by kernel_rfl:S.lone 5120960448=false) (.inr (ff (gb _))) λc1 bp jq g1 m X=>?_
     obtain⟨r1,N,y⟩:=g1.dS;have u:=m 5120000000 U;have v:=m 5120640704 U;have Q:=m 5120704832 U;simp only[go_sem,fh,aa,R,M,E]at u v Q;simp only[go_sem,q,fh,aa,u,v,Q,N,r,gv];refine iN (iv (ey (a_ f) (gq f 1 (-1) true) B) (cU f 1 (-1) false) A (by rw[hM];omega) (by rw[hM];simp;omega) aG) (by kernel_rfl:S.lone 5120960704=false) (.inr (ff (gb _))) λc2 aV v2 O bc T=>?_;simp only[go_sem];refine⟨?_,iW O⟩;rcases y with rfl|rfl<;>rcases X with rfl|rfl<;>rcases T with rfl|rfl<;>kernel_rfl
    have r:¬((A:Int)<(B:Int)):=J;have L:gJ f A B false false true ((b0:Int)==(a1:Int))=some (ey (ey (a_ f) (cU f 1 (-1) false) A) (gq f 1 (-1) true) B):=by simp[gJ,oN,mC,Z,cU,gq]
    rw[L];simp only[go_sem,q,fh,aa,pL,fT (vr _) (D _ _ _ _ _ _ _ _ _),fT (vt _) (D _ _ _ _ _ _ _ _ _),rz,rA,r,dJ,gv];refine⟨aw,aw,?_⟩;refine Am (f:=117) (g:=bX (cU f 1 (-1) true)) (id:=5120704832) (j:=h_) (z:=7) (λo h=>An o aG (yN _) h) (.inr ⟨aG,_,rfl,by simp only[bj,Nat.reduceEqDiff,if_true,if_false];rfl⟩) λY fI l6=>?_;have R:=l6 5120000000 U;have M:=l6 5120640704 U;simp only[go_sem,fh,aa]at R M;rcases fI with⟨e,_⟩|⟨_,gg,e,E⟩
    .simp at e
    cases e;rw[show(bX (cU f 1 (-1) true)).reverse=bX (gq f 1 (-1) true)from rfl]at E;simp only[aZ.ps,ew,jn]at E;simp only[go_sem,q,fh,aa,R,M,E,r,gv,j5];refine iN (iv (a_ f) (cU f 1 (-1) false) A J J aG) (by kernel_rfl:S.lone 5121024448=false) (.inr (ff (gb _))) λc1 bp jq g1 m X=>?_
    obtain⟨r1,N,y⟩:=g1.dS;have u:=m 5120000000 U;have v:=m 5120640704 U;have Q:=m 5120704832 U;simp only[go_sem,fh,aa,R,M,E]at u v Q;simp only[go_sem,q,fh,aa,u,v,Q,N,r,gv];refine iN (iv (ey (a_ f) (cU f 1 (-1) false) A) (gq f 1 (-1) true) B (by rw[hM];omega) (by rw[hM];simp;omega) aG) (by kernel_rfl:S.lone 5121024704=false) (.inr (ff (gb _))) λc2 aV v2 O bc T=>?_;simp only[go_sem];refine⟨?_,iW O⟩;rcases y with rfl|rfl<;>rcases X with rfl|rfl<;>rcases T with rfl|rfl<;>kernel_rfl
   |false=>
    cases ho:((b0:Int)==(a1:Int))with
    |false=>
     have H:((b0:Int)!=(a1:Int)):=by simp only[bne,ho];rfl
     simp only[go_sem,q,fh,aa,H];first|rfl|exact aw|exact⟨aw,rfl⟩|exact⟨aw,aw,rfl⟩
    |true=>
     have H:((b0:Int)!=(a1:Int))=false:=by simp only[bne,ho];rfl
     simp only[go_sem,q,fh,aa,H];refine⟨aw,?_⟩;by_cases Z:A<B
     .have r:((A:Int)<(B:Int)):=J;have L:gJ f A B false false false true=some (ey (ey (a_ f) (cU f (-1) 1 true) B) (cU f (-1) 1 false) A):=by simp[gJ,oN,mC,Z,cU,gq]
      rw[L];simp only[go_sem,q,fh,aa,H,pL,fT (zY _) (D _ _ _ _ _ _ _ _ _),fT (zZ _) (D _ _ _ _ _ _ _ _ _),rz,rA,r,dJ,gv];refine⟨aw,aw,?_⟩;refine iN (iv (a_ f) (cU f (-1) 1 true) B J J aG) (by kernel_rfl:S.lone 5120960448=false) (.inr (ff (gb _))) λc1 bp jq g1 m X=>?_;obtain⟨r1,N,y⟩:=g1.dS;have u:=m 5120000000 U;have v:=m 5120640704 U;have Q:=m 5120704832 U;simp only[go_sem,fh,aa,H]at u v Q;simp only[go_sem,q,fh,aa,H,u,v,Q,N,r,gv];refine iN (iv (ey (a_ f) (cU f (-1) 1 true) B) (cU f (-1) 1 false) A (by rw[hM];omega) (by rw[hM];simp;omega) aG) (by kernel_rfl:S.lone 5120960704=false) (.inr (ff (gb _))) λc2 aV v2 O bc T=>?_
      simp only[go_sem];refine⟨?_,iW O⟩;rcases y with rfl|rfl<;>rcases X with rfl|rfl<;>rcases T with rfl|rfl<;>kernel_rfl
     have r:¬((A:Int)<(B:Int)):=J;have L:gJ f A B false false false true=some (ey (ey (a_ f) (cU f (-1) 1 false) A) (cU f (-1) 1 true) B):=by simp[gJ,oN,mC,Z,cU,gq]
     rw[L];simp only[go_sem,q,fh,aa,H,pL,fT (zY _) (D _ _ _ _ _ _ _ _ _),fT (zZ _) (D _ _ _ _ _ _ _ _ _),rz,rA,r,dJ,gv];refine⟨aw,aw,?_⟩;refine iN (iv (a_ f) (cU f (-1) 1 false) A J J aG) (by kernel_rfl:S.lone 5121024448=false) (.inr (ff (gb _))) λc1 bp jq g1 m X=>?_;obtain⟨r1,N,y⟩:=g1.dS;have u:=m 5120000000 U;have v:=m 5120640704 U;have Q:=m 5120704832 U;simp only[go_sem,fh,aa,H]at u v Q;simp only[go_sem,q,fh,aa,H,u,v,Q,N,r,gv];refine iN (iv (ey (a_ f) (cU f (-1) 1 false) A) (cU f (-1) 1 true) B (by rw[hM];omega) (by rw[hM];simp;omega) aG) (by kernel_rfl:S.lone 5121024704=false) (.inr (ff (gb _))) λc2 aV v2 O bc T=>?_
     simp only[go_sem];refine⟨?_,iW O⟩;rcases y with rfl|rfl<;>rcases X with rfl|rfl<;>rcases T with rfl|rfl<;>kernel_rfl
end





end Go.Abs
