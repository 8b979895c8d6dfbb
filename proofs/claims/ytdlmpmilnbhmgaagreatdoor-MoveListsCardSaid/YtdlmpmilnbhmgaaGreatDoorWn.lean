/- A part. -/
import Derived.Test.YtdlmpmilnbhmgaaGreatDoorWm
set_option linter.all false
open List renaming length->I
set_option maxRecDepth 100000
set_option maxHeartbeats 16000000
namespace Go.Abs
variable{x z N j h y:Nat}{u:ByteArray}{v:Nat->Nat->Nat->Int}{g:bD}{q:Nat->Nat->Nat->dm}{r:dm}
section
variable{f:aI}{F:Nat}
def aeP{k:Int}(j:(k==1)=false)(F:(k==2)=false)(n:(k==3)=false)(h:(k==4)=false)(q:(k==5)=false)(u:(k==6)=false)(g:(k==7)=false)(m:(k==8)=false)(r:(k==9)=false)(f:(k==10)=false):aC S 35 [aq k] (sP ⟨#[]⟩):=by refine bG ae7 ?_;simp only[go_sem,acO,j,F,n,h,q,u,g,m,r,f,ae,ao];try rfl
def apu:xf .eql ⟨#[]⟩ ⟨#[]⟩=some (.bool true):=ah
def amF{k a b c:Int}{l o:Bool}{aP:Int}(n:(k==1)=false)(h:(k==2)=false)(r:(k==3)=false)(m:(k==4)=false)(u:(k==5)=false)(y:(k==6)=false)(j:(k==7)=false)(q:(k==8)=false)(v:(k==9)=false)(g:(k==10)=false):aC S 93 [eQ F f,dp k a b c l o aP] (bK true):=by have x:=aeP n h r m u y j q v g;refine bG ux ?_;simp only[go_sem,tn,lN,lO x,apu,bne,ae,ao];all_goals(first|done|exact aw|exact⟨aw,rfl⟩|rfl)
section
variable {F:Nat} {f:aI} {a b c:Int} {l o:Bool} {aP:Int}
def aem(hl:I f<=1000000):aC S 93 [eQ F f,dp 3 a b c l o aP] (bK (!bV F f 3 a b c l o aP)):=by
 unfold bV;simp only[Int.reduceEq,if_true,if_false,false_or,or_false,or_true,true_or,reduceIte,or_self,vD];refine bG ux ?_;simp only[go_sem,tn,lN,lO MJ,Iz,kI,ai zz,ai z8,ai Ak,ai zU,ai KE,nu,ai (er a),ai (er b),ai (er c),bne,ae,ao];repeat' ((first|apply jv|apply jw|apply jA|apply ju|apply jB|apply jx)<;>intro h<;>simp only[go_sem, *,lN,lO MJ,Iz,kI,ai zz,ai z8,ai Ak,ai zU,ai KE,nu,ai (er a),ai (er b),ai (er c),bne,ae,ao])
 all_goals(first|done|exact aw|exact⟨aw,rfl⟩|rfl)
def alc(hl:I f<=1000000):aC S 93 [eQ F f,dp 6 a b c l o aP] (bK (!bV F f 6 a b c l o aP)):=by
 unfold bV;simp only[Int.reduceEq,if_true,if_false,false_or,or_false,or_true,true_or,reduceIte,or_self,vD];refine bG ux ?_;simp only[go_sem,tn,lN,lO MH,Iz,kI,ai zz,ai z8,ai Ak,ai zU,ai KE,nu,ai (er a),ai (er b),ai (er c),bne,ae,ao];repeat' ((first|apply jv|apply jw|apply jA|apply ju|apply jB|apply jx)<;>intro h<;>simp only[go_sem, *,lN,lO MH,Iz,kI,ai zz,ai z8,ai Ak,ai zU,ai KE,nu,ai (er a),ai (er b),ai (er c),bne,ae,ao])
 all_goals(first|done|exact aw|exact⟨aw,rfl⟩|rfl)
def ald(hl:I f<=1000000):aC S 93 [eQ F f,dp 9 a b c l o aP] (bK (!bV F f 9 a b c l o aP)):=by
 unfold bV;simp only[Int.reduceEq,if_true,if_false,false_or,or_false,or_true,true_or,reduceIte,or_self,vD];refine bG ux ?_;simp only[go_sem,tn,lN,lO ME,zd,kI,ai pU,ai qc,ai qo,ai pY,ai yE,nu,ai (er a),ai (er b),ai (er c),bne,ae,ao];repeat' ((first|apply jv|apply jw|apply jA|apply ju|apply jB|apply jx)<;>intro h<;>simp only[go_sem, *,lN,lO ME,zd,kI,ai pU,ai qc,ai qo,ai pY,ai yE,nu,ai (er a),ai (er b),ai (er c),bne,ae,ao])
 all_goals(first|done|exact aw|exact⟨aw,rfl⟩|rfl)
def akg(hl:I f<=1000000):aC S 93 [eQ F f,dp 10 a b c l o aP] (bK (!bV F f 10 a b c l o aP)):=by
 unfold bV;simp only[Int.reduceEq,if_true,if_false,false_or,or_false,or_true,true_or,reduceIte,or_self,vD];refine bG ux ?_;simp only[go_sem,tn,lN,lO Mx,zd,kI,ai pU,ai qc,ai qo,ai pY,ai yE,nu,ai (er a),ai (er b),ai (er c),bne,ae,ao];repeat' ((first|apply jv|apply jw|apply jA|apply ju|apply jB|apply jx)<;>intro h<;>simp only[go_sem, *,lN,lO Mx,zd,kI,ai pU,ai qc,ai qo,ai pY,ai yE,nu,ai (er a),ai (er b),ai (er c),bne,ae,ao])
 all_goals(first|done|exact aw|exact⟨aw,rfl⟩|rfl)
end
section
variable {F:Nat} {f:aI} {a b c:Int} {l o:Bool} {aP:Int}
def aiP(hl:I f<=1000000):aC S 93 [eQ F f,dp 5 a b c l o aP] (bK (!bV F f 5 a b c l o aP)):=by
 unfold bV;simp only[Int.reduceEq,if_true,if_false,false_or,or_false,or_true,true_or,reduceIte,or_self,vD];refine bG ux ?_;simp only[go_sem,tn,lN,lO Nv,ad1,kI,ai L_,ai LI,ai MB,ai Jp,ai Lu,nu,ai (er a),ai (er b),ai (er c),bne,ae,ao];repeat' ((first|apply jv|apply jw|apply jA|apply ju|apply jB|apply jx)<;>intro h<;>simp only[go_sem, *,lN,lO Nv,ad1,kI,ai L_,ai LI,ai MB,ai Jp,ai Lu,nu,ai (er a),ai (er b),ai (er c),bne,ae,ao])
 all_goals(first|done|exact aw|exact⟨aw,rfl⟩|rfl)
def ahw(hl:I f<=1000000):aC S 93 [eQ F f,dp 7 a b c l o aP] (bK (!bV F f 7 a b c l o aP)):=by
 unfold bV;simp only[Int.reduceEq,if_true,if_false,false_or,or_false,or_true,true_or,reduceIte,or_self,vD];refine bG ux ?_;simp only[go_sem,tn,lN,lO It,ZK,kI,ai JZ,ai KF,ai JN,ai Me,ai LB,nu,ai (er a),ai (er b),ai (er c),bne,ae,ao];repeat' ((first|apply jv|apply jw|apply jA|apply ju|apply jB|apply jx)<;>intro h<;>simp only[go_sem, *,lN,lO It,ZK,kI,ai JZ,ai KF,ai JN,ai Me,ai LB,nu,ai (er a),ai (er b),ai (er c),bne,ae,ao])
 all_goals(first|done|exact aw|exact⟨aw,rfl⟩|rfl)
def arc(hl:I f<=1000000):aC S 93 [eQ F f,dp 8 a b c l o aP] (bK (!bV F f 8 a b c l o aP)):=by
 unfold bV;simp only[Int.reduceEq,if_true,if_false,false_or,or_false,or_true,true_or,reduceIte,or_self,vD];refine bG ux ?_;simp only[go_sem,tn,lN,lO Jd,K_,kI,ai y7,ai yL,ai yr,ai zb,ai Mk,nu,ai (er a),ai (er b),ai (er c),bne,ae,ao];repeat' ((first|apply jv|apply jw|apply jA|apply ju|apply jB|apply jx)<;>intro h<;>simp only[go_sem, *,lN,lO Jd,K_,kI,ai y7,ai yL,ai yr,ai zb,ai Mk,nu,ai (er a),ai (er b),ai (er c),bne,ae,ao])
 all_goals(first|done|exact aw|exact⟨aw,rfl⟩|rfl)
end
def zT(p q l:af):af:=if Ea l p then q else if Ea l q then p else l
section
variable {F:Nat} {f:aI}
def DK(e:Nat):(eE f e).2.2=(jT f e).2.2/\((jT f e).2.2->(jT f e).1=aR f (eE f e).2.1/\(jT f e).2.1=aR f (eE f e).1/\(aR f (eE f e).1).kind=1/\(aR f (eE f e).2.1).kind=2/\
  (((eE f e).1=e/\(eE f e).2.1=bt f e)\/((eE f e).1=bt f e/\(eE f e).2.1=e))):=by
 unfold eE jT;rw[kJ,kJ];by_cases H:(aR f e).kind=1
 .have E:((aR f e).kind==2)=false:=by rw[H];rfl
  have g:((aR f e).kind==1):=by rw[H];rfl
  rw[aD (by rw[E];decide),aM g];simp only[g,tI,tk];exact⟨trivial,λh=>⟨trivial,trivial,H,eq_of_beq h,.inl ⟨trivial,trivial⟩⟩⟩
 have g:((aR f e).kind==1)=false:=by rw[pQ];exact H
 by_cases j:(aR f e).kind=2
 .have E:((aR f e).kind==2):=by rw[j];rfl
  rw[aM E,aD (by rw[g];decide)];simp only[E,tI];exact⟨trivial,λh=>⟨trivial,trivial,eq_of_beq h,j,.inr ⟨trivial,trivial⟩⟩⟩
 have E:((aR f e).kind==2)=false:=by rw[pQ];exact j
 rw[aD (by rw[E];decide),aD (by rw[g];decide)];simp only[g,E,Bool.false_and];exact⟨trivial,λh=>by cases h⟩
def LY(h:x<2*I f):lH f x=if x%2=0 then bt f (x/2)else x/2:=by unfold lH;rw[aD J]
def Vv(g:ch F f){w:aA}(E:w∈fW (bZ f) (bH f))(C0:(iP F f w).places.length=1){u:Nat}(hx:x∈w)(Q:x<2*I f)(hu:lH f x=u){l:af}(hl:f[u]?=some l)(y:l.aN):
  ∃ab v m,ab∈w/\ab<2*I f/\lH f (dW ab)=v/\f[v]?=some m/\m.aN/\l.gate=m.gate/\(l.aK=m.aK+1\/m.aK=l.aK+1):=by
 have ok:=g.ok;have m:=xy ok;have T:=ON Q;have hv:(if x%2=0 then(x/2+1)%I f else x/2)=u:=by rw[<-hu,LY Q]
 rw[hv]at T;have H:=GI m E hx;rw[T]at H;obtain⟨k,hk,O⟩:=amt ok hl y (x%2==0);have n:I (pN F f k)<=1:=by
  rw[<-C0];unfold iP;rcases O with⟨e,_⟩|⟨e,_⟩
  .have:=(abJ (F:=F) (f:=f) w (cM.new f (w.headD 0))).2 _ (e▸H) J;rwa[show(2*I f+2*k-2*I f)/2=k by omega]at this
  have:=(abJ (F:=F) (f:=f) w (cM.new f (w.headD 0))).2 _ (e▸H) J;rwa[show(2*I f+2*k+1-2*I f)/2=k by omega]at this
 have lz:=fO (k+1) (show 0<I (aH f) by omega);obtain⟨M,D,Z⟩:=N9 hk;obtain⟨N,j,L⟩:=N9 lz;have g1:=g.CH D Z;have Y:=g.CH j L;have X:k+1<I (aH f)/\sq f ((aH f).getD ((k+1)%I (aH f)) 0)<=sq f ((aH f).getD k 0):=by
  unfold pN at n;simp only at n;split at n
  .rename_i h;rw[yM]at n;exact⟨h,J⟩
  rw[ep,yM,yM]at n;omega
 obtain⟨z,q⟩:=X;rw[o_ z]at j q;rw[AS D,AS j]at q;have im:N.gate<=M.gate:=by have:=g1.g0;have:=Y.g0;omega
 obtain⟨r1,R⟩:=aj8 ok z rfl rfl D j Z L im;rcases O with⟨e,B⟩|⟨e,B⟩
 .rw[e]at H;have r:=GI m E H;rw[OY,o_ z]at r;rw[B,hl]at D;cases D;have A:=(ct.1 j).1;exact⟨_,_,N,r,wK A,by rw[D7,Ah A],j,L,r1,.inr R⟩
 rw[e]at H;have r:=GI m E H;rw[O_]at r;rw[o_ z]at B;rw[B,hl]at j;cases j;have A:=(ct.1 D).1;exact⟨_,_,M,r,wK A,by rw[D7,Ah A],D,Z,r1.symm,.inl R⟩
def ahm(g:ch F f){w:aA}(r:w∈fW (bZ f) (bH f)){u:Nat}(B:x∈w)(q:x<2*I f)(z:lH f x=u){l:af}(hl:f[u]?=some l)(h:l.aJ):
  ∃y v m,y∈w/\y<2*I f/\lH f (dW y)=v/\f[v]?=some m/\m.aJ:=by
 have ok:=g.ok;have m:=xy ok;have j:=ON q;have D:(if x%2=0 then(x/2+1)%I f else x/2)=u:=by rw[<-z,LY q]
 rw[D]at j;have n:=GI m r B;rw[j,Ml hl h]at n;obtain⟨_,k,H,E,_⟩:=MS ok.cr hl h;have A:=(ct.1 H).1;exact⟨_,_,k,n,wK A,by rw[D7,Ah A],H,E⟩
def amr{D:aA}(h:I D=2){y:Nat}(f:x∈D)(H:y∈D)(A:x≠y)(g:z∈D):z=x\/z=y:=by
 match D,h with
 |[p,q],_=>simp only[dL,mV,or_false]at f H g;omega
def aab{l:af}(h:l.kind=1)(H:l.aJ):False:=by rw[ad2 H]at h;cases h
def agP(g:ch F f){a b:Nat}(ha:a<I f)(hb:b<I f)(gu:a≠b)(ma:(jT f a).2.2)(mb:(jT f b).2.2)(ho:qK F f 1 [a,b]):sK (jT f a).2.1 (jT f b).2.1:=by
 obtain⟨_,p1,p2,L,A⟩:=And.intro (DK (f:=f) a).1 ((DK (f:=f) a).2 ma);obtain⟨_,q1,q2,N,r⟩:=And.intro (DK (f:=f) b).1 ((DK (f:=f) b).2 mb);rw[p2,q2];unfold qK at ho;obtain⟨ad,hf,h⟩:=Ad.1 ho;obtain⟨w,hw,rfl⟩:=eJ.1 hf;unfold vS at h;simp only[cq,c6,dE,eR,oQ,qF,tk,hY]at h;obtain⟨xT,C0,xa,xb⟩:=h;have M:∀x,x∈(iP F f w).aT↔x∈w/\x<2*I f:=λx=>by rw[yB,tx,fH]
 have ex:∀e,(decide (2*e∈(iP F f w).aT)==decide (2*e+1∈(iP F f w).aT))=false->∃d,d∈(iP F f w).aT/\d/2=e:=by
  intro e h;by_cases q:2*e∈(iP F f w).aT
  .exact⟨_,q,J⟩
  by_cases n:2*e+1∈(iP F f w).aT
  .exact⟨_,n,J⟩
  rw[r3 q,r3 n]at h;cases h
 obtain⟨x,hx,xe⟩:=ex a xa;obtain⟨y,hy,ye⟩:=ex b xb;have qV:x≠y:=λe=>gu (by rw[<-xe,<-ye,e]);obtain⟨xw,xl⟩:=(M x).1 hx;obtain⟨yw,yl⟩:=(M y).1 hy;have only:∀z,z∈w->z<2*I f->z=x\/z=y:=λz q n=>amr xT hx hy qV ((M z).2 ⟨q,n⟩)
 have E:∀ {d e:Nat},d/2=e->d<2*I f->(((eE f e).1=e/\(eE f e).2.1=bt f e)\/((eE f e).1=bt f e/\(eE f e).2.1=e))->
   (lH f d=(eE f e).1/\lH f (dW d)=(eE f e).2.1)\/(lH f d=(eE f e).2.1/\lH f (dW d)=(eE f e).1):=by
  intro d e oY og O;have hr:=E5 og;rw[LY og,LY hr,arh,oY];rcases Bs d with c|c
  .have c':dW d%2=1:=by unfold dW;rw[aM c];omega
   rw[aM c,aD J];rcases O with⟨m,j⟩|⟨m,j⟩<;>rw[m,j]<;>simp
  have c':dW d%2=0:=by unfold dW;rw[aD J];omega
  rw[aD J,aM c'];rcases O with⟨m,j⟩|⟨m,j⟩<;>rw[m,j]<;>simp
 have u:∀ {e:Nat},e<I f->(((eE f e).1=e/\(eE f e).2.1=bt f e)\/((eE f e).1=bt f e/\(eE f e).2.1=e))->(eE f e).1<I f/\(eE f e).2.1<I f:=λhe O=>by
  have:=g.wS ‹Nat›;rcases O with⟨m,j⟩|⟨m,j⟩<;>rw[m,j]
  .exact⟨he,g.wS _⟩
  exact⟨g.wS _,he⟩
 obtain⟨zX,DG⟩:=u ha A.2;obtain⟨JI,ab⟩:=u hb r.2;have hP:=iX zX;have hV:=iX DG;have hQ:=iX JI;have hW:=iX ab;have ue:=E xe xl A.2;have Ey:=E ye yl r.2;have fin:∀ {P Q:af},P.kind=1->Q.kind=1->P.gate=Q.gate->(P.aK=Q.aK+1\/Q.aK=P.aK+1)->sK P Q:=λq n h3 h4=>by unfold sK;simp[q,n,h3,h4]
 rcases ue with⟨x1,X⟩|⟨x1,X⟩
 .obtain⟨z,v,mm,B,D,Z,H,R,r1,r2⟩:=Vv g hw C0 xw xl x1 hP (yW L);rcases only z B D with rfl|rfl
  .rw[X]at Z;subst Z;rw[hV]at H;cases H;rw[P1 R]at A;exact absurd A.1 U
  rcases Ey with⟨T,Y⟩|⟨T,Y⟩
  .rw[Y]at Z;subst Z;rw[hW]at H;cases H;rw[P1 R]at r;exact absurd r.1 U
  rw[Y]at Z;subst Z;rw[hQ]at H;cases H;exact fin L N r1 r2
 rcases Ey with⟨T,Y⟩|⟨T,Y⟩
 .obtain⟨z,v,mm,B,D,Z,H,R,r1,r2⟩:=Vv g hw C0 yw yl T hQ (yW N);rcases only z B D with rfl|rfl
  .rw[X]at Z;subst Z;rw[hP]at H;cases H;exact fin L N r1.symm r2.symm
  rw[Y]at Z;subst Z;rw[hW]at H;cases H;rw[P1 R]at r;exact absurd r.1 U
 obtain⟨z,v,mm,B,D,Z,H,cm⟩:=ahm g hw xw xl x1 hV (uG A.1);rcases only z B D with rfl|rfl
 .rw[X]at Z;subst Z;rw[hP]at H;cases H;exact absurd cm λh=>aab L h
 rw[Y]at Z;subst Z;rw[hQ]at H;cases H;exact absurd cm λh=>aab N h
def TB(x y:af):Ea x y↔x=y:=by
 constructor
 .intro h;unfold Ea at h;simp only[cq,c6]at h;obtain⟨j,f,n,g,m,H⟩:=h;cases x;cases y;simp only at j f n g m H;subst j f n g m H;rfl
 rintro rfl;exact Ss x
def adO(g:ch F f){i:Nat}{l:af}(hl:f[i]?=some l)(h:l.kind=1):l=⟨1,l.gate,l.aK,0,0,false⟩:=by have n:=g.bad l (bY hl);rw[Ao (yW h)]at n;obtain⟨⟨⟨_,j⟩,H⟩,m⟩:=n;cases l;simp only at h j H m |-;subst h j H m;rfl
def ahn(g:ch F f){i j:Nat}(u:i<I f)(x:j<I f)(z:(aR f i).kind=1)(v:(aR f j).kind=1)(D:(aR f i).gate=(aR f j).gate)(r:(aR f i).aK≠(aR f j).aK):
  (f.set i (aR f j)).set j (aR f i)=f.map (zT (aR f i) (aR f j)):=by
 have y:=iX u;have q:=iX x;have L:i≠j:=λe=>r (by rw[e]);apply Ai;intro k;rw[gZ,lC,lC,jc];have H:zT (aR f i) (aR f j) (aR f i)=aR f j:=by unfold zT;rw[aM (Ss _)]
 have A:zT (aR f i) (aR f j) (aR f j)=aR f i:=by unfold zT;rw[aD (λh=>r (by rw[(TB _ _).1 h])),aM (Ss _)]
 by_cases E:j=k
 .subst E;rw[aM rfl,aM x,q,oG,A]
 rw[aD E];by_cases n:i=k
 .subst n;rw[aM rfl,aM u,y,oG,H]
 rw[aD n];by_cases B:k<I f
 .have m:=iX B;rw[m,oG];congr 1;unfold zT;rw[aD,aD]
  .intro h;have h:=(TB _ _).1 h;exact E (g.one q m (yW v) (by rw[h];exact yW v) (by rw[h]) (by rw[h]))
  intro h;have h:=(TB _ _).1 h;exact n (g.one y m (yW z) (by rw[h];exact yW z) (by rw[h]) (by rw[h]))
 rw[o6 J];rfl
def VO{l:cO}{i:Nat}{p:aZ}{r:Int}(h:l[i]?=some p):lX l i r=l.set i {p with l:={p.l with aK:=r}}:=by unfold lX;rw[dT,h];rfl
def am7(g:ch F f){a b:Nat}(m:a<I f)(u:b<I f)(gu:a≠b):
  (xQ F f a b).isSome=Cg F f a b/\
  ∀L,xQ F f a b=some L->eB L (lp (lp (f.map (zT (jT f a).2.1 (jT f b).2.1)) a (bt f a)) b (bt f b)) (lp (lp (tO f) a (bt f a)) b (bt f b)):=by
 have dt:=SS (F:=F) (h:=f) (q:=1) (E:=[a,b]) rfl m;obtain⟨ea,X⟩:=DK (f:=f) a;obtain⟨eb,O⟩:=DK (f:=f) b;obtain⟨Z,DG⟩:=JM m;obtain⟨B,z⟩:=JM u;have vW:((eE f a).2.2&&((eE f b).2.2&&(!((eE f a).2.1==(eE f b).2.1)&&(((aQ f (eE f a).2.1).l.id==(aQ f (eE f b).2.1).l.id)&&nD F f 1 [a,b] a))))=Cg F f a b:=by
  unfold Cg;rw[ea,eb,dt,kJ,kJ];cases n:(jT f a).2.2 with
  |false=>rfl
  |true=>
  cases j:(jT f b).2.2 with
  |false=>rfl
  |true=>
  obtain⟨p1,M,r,p4,p5⟩:=X n;obtain⟨q1,Y,v,q4,q5⟩:=O j;cases h3:qK F f 1 [a,b]with
  |false=>simp
  |true=>
  have H:=agP g m u gu n j h3;rw[H,p1,q1];simp only[tI,tk];cases h4:((aR f (eE f a).2.1).id==(aR f (eE f b).2.1).id)with
  |false=>simp
  |true=>
  simp only[tk,tI];congr 1;rw[kS,c6,c6];constructor
  .intro e;rw[e]
  intro e;apply Classical.byContradiction;intro E;exact(g.ids.2 _ _ _ _ (iX DG) (iX z) (uG p4) (uG q4) (eq_of_beq h4) E).1 e
 unfold xQ;rw[vW];refine⟨by split<;>simp_all,λL x=>?_⟩;split at x
 .rename_i A;cases x;unfold Cg at A;simp only[cq]at A;obtain⟨n,j,_,_,H,_⟩:=A;obtain⟨p1,M,r,p4,p5⟩:=X n;obtain⟨q1,Y,v,q4,q5⟩:=O j;rw[M,Y]at H |-;unfold sK at H;simp only[cq,jC,c6]at H;obtain⟨_,_,D,hr⟩:=H;have YN:(aR f (eE f a).1).aK≠(aR f (eE f b).1).aK:=J;have E:(eE f a).1≠(eE f b).1:=λe=>YN (by rw[e])
  have gp:=adO g (iX Z) r;have N:=adO g (iX B) v;generalize fE:(eE f a).1=h at*;generalize zK:(eE f b).1=Q at*;have T:=Nh Z;have s2:=Nh B;have r1:=(eB.base f).set T (q:={aQ f h with l:={(aQ f h).l with aK:=(aQ f Q).l.aK}}) rfl rfl;have t2:((a_ f).set h {aQ f h with l:={(aQ f h).l with aK:=(aQ f Q).l.aK}})[Q]?=some (aQ f Q):=by rw[Us E];exact s2
  have R:=r1.set t2 (q:={aQ f Q with l:={(aQ f Q).l with aK:=(aQ f h).l.aK}}) rfl rfl;have eL:(f.set h ({(aQ f h).l with aK:=(aQ f Q).l.aK}:af)).set Q ({(aQ f Q).l with aK:=(aQ f h).l.aK}:af)=f.map (zT (aR f h) (aR f Q)):=by
   rw[<-ahn g Z B r v D YN,kJ,kJ];have x1:({aR f h with aK:=(aR f Q).aK}:af)=aR f Q:=by rw[gp,N,D]
   have x2:({aR f Q with aK:=(aR f h).aK}:af)=aR f h:=by rw[gp,N,D]
   rw[x1,x2]
  have eS:lX (lX (a_ f) h (aQ f Q).l.aK) Q (aQ f h).l.aK=((a_ f).set h {aQ f h with l:={(aQ f h).l with aK:=(aQ f Q).l.aK}}).set Q {aQ f Q with l:={(aQ f Q).l with aK:=(aQ f h).l.aK}}:=by rw[VO T,VO t2]
  simp only at R;rw[eL]at R;rw[eS];unfold mJ;simp only[qG,Hu];have GO:I (((a_ f).set h {aQ f h with l:={(aQ f h).l with aK:=(aQ f Q).l.aK}}).set Q {aQ f Q with l:={(aQ f Q).l with aK:=(aQ f h).l.aK}})=I f:=by simp[bR]
  rw[Hz g GO m,Hz g (by rw[Mi,GO]) u];exact(R.sw _ _).sw _ _
 cases x
end
def akf(F:Int):aC S 36 [dQ F []] (.agg [.p (.int .i64 F),.p (.sl []),.p (.int .i64 0),.p .nils]):=by refine bG Vz ?_;have h:¬((0:Int)<0):=J;simp only[go_sem,Sl,Int.ofNat_zero,h,bne,ae,ao];all_goals(first|done|exact aw|exact⟨aw,rfl⟩|rfl)
def ajy{a b c:Int}{l o:Bool}{aP:Int}:aC S 94 [eQ F [],dp 2 a b c l o aP] (bK true):=by refine bG uz ?_;have h:(((0:Nat):Int)==0):=rfl;simp only[go_sem,tl,h,bne,ae,ao];all_goals(first|done|exact aw|exact⟨aw,rfl⟩|rfl)
def ZW(g:ch F f){i:Nat}{l:af}(hl:f[i]?=some l): -1000<=l.gate/\l.gate<=1000:=by
 have x:=g.fing;rcases g.ok.kinds l (bY hl)with hp|m
 .have:=g.CH hl hp;have:=this.g0;have:=(g.CH hl hp).g1;omega
 have H:=g.bad l (bY hl);have j:=ad2 m;unfold ek at H;rw[j]at H;have n:l.gate=0:=by apply Classical.byContradiction;intro h;simp[h]at H
 omega
def adx(g:ch F f){d:Nat}(H:d<2*I f):(cK F f d).places.length<=1000000:=by obtain⟨w,j,m⟩:=eJ.1 (CV (F:=F) H);obtain⟨_,n,r⟩:=yS g.ok w j;have q:=(Jy g.ok r (I w) (cH _)).2.1;rw[MZ,m]at q;have h:=g.len;have x:=g.fing;have v:I (aH f)<=I f:=mv f (I f);have u:I w*(2*F+2)<=1600*82:=A_ (by unfold bH at n;omega) J;omega
def P4(F:Nat)(f:aI)(k a b c:Int)(l o:Bool)(aP:Int):Prop:= ∃v,aC S 59 [eQ F f,dp k a b c l o aP] (fy v)/\(v=0↔okB F f ⟨k,a,b,c,l,o,aP⟩=true)
def vw(g:ch F f)(v:I f<=40){k a b c:Int}{l o:Bool}{aP:Int}{p:Bool}(m:bV F f k a b c l o aP)(pw:aC S 93 [eQ F f,dp k a b c l o aP] (bK (!bV F f k a b c l o aP)))(u:aC S 94 [eQ F f,dp k a b c l o aP] (bK p))(j:(xP F f k a.toNat b.toNat c.toNat l o aP).isSome=p):P4 F f k a b c l o aP:=by
 rw[m]at pw;have q:=JV g.len pw λ_=>u;have N:aF af.aJ f<=I f:=ld _ _;have n:(decide (400<(AI (I f:Int) ((aF af.aJ f/2:Nat):Int) k).1)||decide (100<(AI (I f:Int) ((aF af.aJ f/2:Nat):Int) k).2))=false:=by
  unfold AI;repeat' split
  all_goals(simp only[Aj,decide_eq_false_iff_not];omega)
 refine⟨_,q,?_⟩;rw[GV];unfold D1 uJ;rw[n,aM m];cases H:xP F f k a.toNat b.toNat c.toNat l o aP with
 |none=>rw[H]at j;subst j;exact⟨λh=>absurd h U,λ⟨M,H⟩=>absurd H.symm (FR (e:=4) U)⟩
 |some M=>
  rw[H]at j;subst j;have r:¬((400:Int)<(I f:Int)+(iG k).1\/(100:Int)<((aF af.aJ f/2:Nat):Int)+(iG k).2):=by
   unfold iG;repeat' split
   all_goals simp only
   all_goals omega
  exact⟨λ_=>⟨tP M,aD r⟩,λ_=>rfl⟩
def OA(hl:I f<=1000000)(k a b c:Int)(l o:Bool)(aP:Int):aC S 93 [eQ F f,dp k a b c l o aP] (bK (!bV F f k a b c l o aP)):=by
 by_cases v:k=1
 .subst v;exact aq5 hl
 by_cases j:k=2
 .subst j;exact aqu hl
 by_cases m:k=3
 .subst m;exact aem hl
 by_cases u:k=4
 .subst u;exact ai7 hl
 by_cases z:k=5
 .subst z;exact aiP hl
 by_cases n:k=6
 .subst n;exact alc hl
 by_cases y:k=7
 .subst y;exact ahw hl
 by_cases H:k=8
 .subst H;exact arc hl
 by_cases r:k=9
 .subst r;exact ald hl
 by_cases g:k=10
 .subst g;exact akg hl
 have A:bV F f k a b c l o aP=false:=by unfold bV;simp[v,j,m,u,z,n,y,H,r,g]
 rw[A];have q:∀ {x:Int},¬k=x->(k==x)=false:=λh=>by simp[h]
 exact amF (q v) (q j) (q m) (q u) (q z) (q n) (q y) (q H) (q r) (q g)
def aqF(hl:I f<=400){k a b c:Int}{l o:Bool}{aP:Int}(H:bV F f k a b c l o aP=false):P4 F f k a b c l o aP:=by have pw:=OA (F:=F) (f:=f) J k a b c l o aP;rw[H]at pw;refine⟨_,JV (p:=false) hl pw (λh=>by cases h),?_⟩;rw[GV];unfold uJ;rw[aD (by rw[H];decide)];exact⟨λh=>absurd h (by unfold D1;simp),λ⟨M,g⟩=>absurd g.symm (FR (e:=2) U)⟩
def Lx(g:ch F f)(n:I f<=40)(k a b c:Int)(l o:Bool)(aP:Int):P4 F f k a b c l o aP:=by
 have hl:=g.len;have pw:=OA (F:=F) (f:=f) J k a b c l o aP;cases h:bV F f k a b c l o aP with
 |false=>exact aqF hl h
 |true=>
  have x:=h;unfold bV at h;by_cases z:k=1
  .subst z;simp only[Int.reduceEq,if_true,if_false,false_or,or_false,or_true,true_or,reduceIte,or_self]at h;simp only[cq,hY,c6]at h;obtain⟨rfl,rfl,rfl,j,rfl,rfl⟩:=h;obtain⟨A,rfl,H⟩:=ie j;exact vw g n x pw (aqe g H (Nn g H) (Nn g (wS H))) (amo g H).1
  by_cases u:k=2
  .subst u;simp only[Int.reduceEq,if_true,if_false,false_or,or_false,or_true,true_or,reduceIte,or_self]at h;simp only[cq,jC,hY,c6,fH]at h;obtain⟨rfl,rfl,rfl,j,X,CK,Z,ng⟩:=h;rcases j with j|⟨j,_⟩
   rotate_left
   .exact absurd j (by have:=g.pos;omega)
   obtain⟨A,rfl,H⟩:=ie j;obtain⟨B,rfl⟩:=lM X;obtain⟨v,rfl⟩:=lM Z;have Im:v<=1000:=by have:=ld (rn B) f;simp only[dY,nY]at ng;omega
   exact vw g n x pw (ajf g H (adx g J) (adx g J)) (agC g H).1
  by_cases N:k=3
  .subst N;simp only[Int.reduceEq,if_true,if_false,false_or,or_false,or_true,true_or,reduceIte,or_self]at h;simp only[cq,hY,c6,fH]at h;obtain⟨rfl,rfl,rfl,j,rfl,q,au⟩:=h;obtain⟨A,rfl,H⟩:=ie j;obtain⟨B,rfl,m⟩:=ie q;exact vw g n x pw (aqa g H m) (am7 g H m J).1
  by_cases y:k=4
  .subst y;simp only[Int.reduceEq,if_true,if_false,false_or,or_false,or_true,true_or,reduceIte,or_self]at h;simp only[cq,hY,c6]at h;obtain⟨rfl,rfl,rfl,j,rfl,rfl⟩:=h;obtain⟨A,rfl,H⟩:=ie j;exact vw g n x pw (amb g H) (aoW g H).1
  by_cases E:k=5
  .subst E;simp only[Int.reduceEq,if_true,if_false,false_or,or_false,or_true,true_or,reduceIte,or_self]at h;simp only[cq,jC,hY,c6]at h;obtain⟨rfl,_,j,rfl,rfl⟩:=h;obtain⟨A,rfl,H⟩:=ie j;exact vw g n x pw aeH rfl
  by_cases O:k=6
  .subst O;simp only[Int.reduceEq,if_true,if_false,false_or,or_false,or_true,true_or,reduceIte,or_self]at h;simp only[cq,hY,c6,fH]at h;obtain⟨rfl,rfl,rfl,j,rfl,q,au⟩:=h;obtain⟨A,rfl,H⟩:=ie j;obtain⟨B,rfl,m⟩:=ie q;exact vw g n x pw (aoZ g H m) (ano g H m).1
  by_cases D:k=7
  .subst D;simp only[Int.reduceEq,if_true,if_false,false_or,or_false,or_true,true_or,reduceIte,or_self]at h;simp only[cq,hY,c6,pQ]at h;obtain⟨rfl,j,rfl,q,aY⟩:=h;obtain⟨A,rfl,H⟩:=ie j;obtain⟨B,rfl,m⟩:=ie q;exact vw g n x pw (aml g H m) (afo g H m J l o).1
  by_cases M:k=8
  .subst M;simp only[Int.reduceEq,if_true,if_false,false_or,or_false,or_true,true_or,reduceIte,or_self]at h;simp only[cq,hY,c6,fH]at h;obtain⟨rfl,rfl,rfl,j,q,Y,_,_⟩:=h;obtain⟨A,rfl,H⟩:=ie j;obtain⟨B,rfl,m⟩:=ie q;obtain⟨v,rfl,R⟩:=ie Y;exact vw g n x pw (ao5 g H m R) (aeK g H m R).1
  by_cases Q:k=9
  .subst Q;simp only[Int.reduceEq,if_true,if_false,false_or,or_false,or_true,true_or,reduceIte,or_self]at h;simp only[cq,hY,c6]at h;obtain⟨rfl,rfl,rfl,j,rfl,rfl⟩:=h;obtain⟨A,rfl,H⟩:=ie j;have T:=ZW g (iX H);have r:=aex (F:=F) (a:=A) g H;exact vw g n x pw (agY g (iX H)) r.1
  by_cases L:k=10
  .subst L;simp only[Int.reduceEq,if_true,if_false,false_or,or_false,or_true,true_or,reduceIte,or_self]at h;simp only[cq,hY,c6]at h;obtain⟨rfl,rfl,rfl,j,rfl,rfl⟩:=h;obtain⟨A,rfl,H⟩:=ie j;have T:=ZW g (iX H);have r:=aj5 (F:=F) (a:=A) g H;exact vw g n x pw (aeu g (iX H)) r.1
  simp[z,u,N,y,E,O,D,M,Q,L]at h
def qW{α:Type}(f:Nat->List α)(k:Nat):(List.range k++[k]).flatMap f=(List.range k).flatMap f++f k:=by rw[List.flatMap_append];simp
def jz(k:Int)(v:Nat->Nat->Nat->Int)(a b c:Nat):dm:=if v a b c=0 then [⟨k,a,b,c,false,false,0⟩]else []
def vq(h:Nat)(k:Int)(v:Nat->Nat->Nat->Int)(a b:Nat):dm:=(List.range h).flatMap (jz k v a b)
def vG(j h:Nat)(k:Int)(v:Nat->Nat->Nat->Int)(a:Nat):dm:=(List.range j).flatMap (vq h k v a)
def v_(n j h:Nat)(k:Int)(v:Nat->Nat->Nat->Int):dm:=(List.range n).flatMap (vG j h k v)
def nJ(x:dC):PV:=if x=[]then .nils else .sl x
def Oz{blk:aB}(x:dC):eO blk (.one (.p (nJ x)))=some (x,[],[]):=by
 unfold nJ;by_cases h:x=[]
 .rw[aM h,h];rfl
 rw[aD h];rfl
def WK(x:dC):(nJ x).norm=.sl x:=by
 unfold nJ;by_cases h:x=[]
 .rw[aM h,h];rfl
 rw[aD h];rfl
def Gw{blk:aB}{s T:Nat}{E:dC}(L:S.lone s):d_ blk [] s ((RV.one (bn T z E)).eU (S.lone s))=some (.one (.p (nJ E)),[]):=by
 rw[L];unfold bn nJ;by_cases h:E=[]
 .rw[aM h,aM h];rfl
 rw[aD h,aD h];rfl
section
variable {F:Nat} {f:aI}
abbrev fN:Nat:=37
def Ox{k a b c v:Int}(j:aC S 37 [fc u,.one (.p (.int .u8 76))] (bK false))(g:aC S 37 [fc u,.one (.p (.int .u8 79))] (bK false))(H:aC S 59 [eQ F f,dp k a b c false false 0] (fy v)):aC S 38 [eQ F f,dp k a b c false false 0,fc u] (.one (bn fN 7 (bh (if v=0 then [⟨k,a,b,c,false,false,0⟩]else [])))):=by
 refine bG XU ?_;by_cases h:v=0
 .subst h;have E:((0:Int)==0):=rfl;rw[aM rfl];simp only[go_sem,Az,kI,ai j,ai g,Cx,dj H,E];refine iR (id:=2432256192) (q:=2432256192) (j:=[]) (A:=[[.int .i64 k,.int .i64 a,.int .i64 b,.int .i64 c,.bool false,.bool false,.int .i64 0]]) aW.nil (by simp only[eO,bj,if_true];rfl) (.inl rfl) aG λn A g1 q=>?_;simp only[go_sem];exact nV g1
 rw[aD h];have m:(v==0)=false:=by simpa using h
 simp only[go_sem,Az,kI,ai j,ai g,Cx,dj H,m];first|done|rfl
def agV{x:PV}(hx:x.norm=.sl (g_ (cZ F f))){k:Int}{G:Nat}(hN:N<=400)(an:j<=400)(zG:h<=400)(hL:aC S 37 [fc u,.one (.p (.int .u8 76))] (bK false))(hO:aC S 37 [fc u,.one (.p (.int .u8 79))] (bK false))(hv:∀a b c:Nat,aC S 59 [eQ F f,dp k a b c false false 0] (fy (v a b c))){blk:aB}
  (A:g 1=aq k) (B:g 5=.one (.p .nils)) (D:g 6=fc u) (z:g 7=.one (.bg 1088192128 G 0)) (y:g 8=aq N) (E:g 9=aq j) (m:g 10=aq h) (q:g 11=aq 0) (H:blk 1088192128=(G,some (.var [.p (.int .i64 F),.p (jF f),.p (.int .i64 (I f)),.p x]))):
  W S .all (.loop Aw) (kZ 0 (qm S .all E6 (nk .all Bg.results λw blk=>hJ blk w=some (.one (bn fN 7 (bh (v_ N j h k v))))))) g blk:=by
 have lo:S.lone 1089344512:=ah;have jI:∀a b c:Nat,aC S 38 [eQ F f,dp k a b c false false 0,fc u] (.one (bn fN 7 (bh (jz k v a b c)))):=λa b c=>Ox hL hO (hv a b c)
 refine cD (λa g blk=>g 1=aq k/\g 6=fc u/\g 7=.one (.bg 1088192128 G 0)/\g 8=aq N/\g 9=aq j/\g 10=aq h/\g 11=aq a/\blk 1088192128=(G,some (.var [.p (.int .i64 F),.p (jF f),.p (.int .i64 (I f)),.p x]))/\ ∃O,g 5=.one O/\I ((List.range a).flatMap (vG j h k v))<=161000*a/\aW 1089344576 fN 7 (bh ((List.range a).flatMap (vG j h k v))) (.one O) blk) 0 N (bC _) ⟨A,D,z,y,E,m,q,H,_,B,aG,aW.nil⟩ ?_;clear A B D z y E m q H;rintro a g blk ha ⟨A,D,z,y,E,m,q,H,ca,B,Q,L⟩
 by_cases au:a<N
 .have aL:((a:Int)<(N:Int)):=J;have w1:=bJ (n:=a) J;have sa:=qW (vG j h k v) a;generalize am:(List.range a).flatMap (vG j h k v)=M at*;simp only[go_sem,Aw,A,B,D,z,y,E,m,q,aL];refine cD (λb g blk=>g 1=aq k/\g 6=fc u/\g 7=.one (.bg 1088192128 G 0)/\g 8=aq N/\g 9=aq j/\g 10=aq h/\g 11=aq a/\g 12=aq b/\blk 1088192128=(G,some (.var [.p (.int .i64 F),.p (jF f),.p (.int .i64 (I f)),.p x]))/\ ∃O,g 5=.one O/\I (M++(List.range b).flatMap (vq h k v a))<=161000*a+401*b/\aW 1089344576 fN 7 (bh (M++(List.range b).flatMap (vq h k v a))) (.one O) blk) 0 j (bC _) ?_ ?_
  .simp only[go_sem,A,B,D,z,y,E,m,q,H];exact⟨rfl,_,rfl,by simpa using Q,by simpa using L⟩
  clear A B D z y E m q H L Q;rintro b g blk hb ⟨A,D,z,y,E,m,q,r,H,ca,B,Q,L⟩
  by_cases ag:b<j
  .have SV:((b:Int)<(j:Int)):=J;have w2:=bJ (n:=b) J;have sb:=qW (vq h k v a) b;generalize ap:(List.range b).flatMap (vq h k v a)=R at*;simp only[go_sem,G3,A,B,D,z,y,E,m,q,r,SV];refine cD (λc g blk=>g 1=aq k/\g 6=fc u/\g 7=.one (.bg 1088192128 G 0)/\g 8=aq N/\g 9=aq j/\g 10=aq h/\g 11=aq a/\g 12=aq b/\g 13=aq c/\blk 1088192128=(G,some (.var [.p (.int .i64 F),.p (jF f),.p (.int .i64 (I f)),.p x]))/\ ∃O,g 5=.one O/\I (M++R++(List.range c).flatMap (jz k v a b))<=161000*a+401*b+c/\aW 1089344576 fN 7 (bh (M++R++(List.range c).flatMap (jz k v a b))) (.one O) blk) 0 h (bC _) ?_ ?_
   .simp only[go_sem,A,B,D,z,y,E,m,q,r,H];exact⟨rfl,_,rfl,by simpa using Q,by simpa using L⟩
   clear A B D z y E m q r H L Q;rintro c g blk hc ⟨A,D,z,y,E,m,q,r,T,H,ca,B,Q,L⟩
   by_cases IJ:c<h
   .have SW:((c:Int)<(h:Int)):=J;have w3:=bJ (n:=c) J;have sc:=qW (jz k v a b) c;have pf:=jI a b c;have dt:I (bh (jz k v a b c))<=1:=by
     unfold jz;split<;>simp[bh]
    have Il:I (jz k v a b c)<=1:=by unfold jz;split<;>simp
    have ab:ao 7 (bh (jz k v a b c)):=by unfold jz;split<;>rfl
    generalize ar:(List.range c).flatMap (jz k v a b)=X at*;generalize ng:jz k v a b c=qs at*;simp only[go_sem,GS,A,B,D,z,y,E,m,q,r,T,H,hx,SW,VF,bl pf (Gw lo)];have dr:I (bh (M++R++X))=I (M++R++X):=cT ..;refine iR (id:=1089344576) (q:=1089344576) (j:=bh (M++R++X)) (A:=bh qs) L (Oz _) (.inr ab) J λc2 ak g1 ba=>?_;have Hl:=ba 1088192128 U U;rw[H]at Hl;simp only[go_sem,A,B,D,z,y,E,m,q,r,T,w3];refine⟨IJ,Hl,c2,rfl,?_,?_⟩
    .rw[sc,<-jL,ep];omega
    rw[sc,<-jL,show bh (M++R++X++qs)=bh (M++R++X)++bh qs by simp[bh]];exact g1
   have l7:c=h:=J;subst l7;have Z:(List.range c).flatMap (jz k v a b)=vq c k v a b:=rfl;rw[Z]at Q L;simp only[go_sem,GS,NB,A,B,D,z,y,E,m,q,r,T,dF,w2];refine⟨ag,H,_,rfl,?_,?_⟩
   .rw[sb,<-jL];omega
   rw[sb,<-jL];exact L
  have ad:b=j:=J;subst ad;have Z:(List.range b).flatMap (vq h k v a)=vG b h k v a:=rfl;rw[Z]at Q L;simp only[go_sem,G3,NV,A,B,D,z,y,E,m,q,r,dF,w1];refine⟨au,H,_,rfl,?_,?_⟩
  .rw[sa];omega
  rw[sa];exact L
 have Y:a=N:=J;subst Y;simp only[go_sem,Aw,E6,Bg,A,B,D,z,y,E,m,q,dF];exact nV L
def WQ(h:f=[]\/ch F f):∃x r,x.norm=.sl (g_ (cZ F f))/\aC S 36 [dQ F f] r/\ ∀(blk:aB) (s:Nat),S.lone s->d_ blk [] s (r.eU (S.lone s))=some (.agg [.p (.int .i64 F),.p (jF f),.p (.int .i64 (I f)),.p x],[]):=by
 rcases h with rfl|g
 .exact⟨.nils,_,rfl,akf F,λblk s h=>by rw[h];rfl⟩
 refine⟨.sl (g_ (cZ F f)),_,rfl,aiw g,λblk s h=>?_⟩;rw[h,ao9 (aet g)];rfl
def rv(h:f=[]\/ch F f)(hl:I f<=400){k:Int}{j pc:Bool}(y:(k==2)=false)(n:aC S 35 [aq k] (sP u))(B:aC S 37 [fc u,.one (.p (.int .u8 66))] (bK j))(m:aC S 37 [fc u,.one (.p (.int .u8 67))] (bK pc))(E:aC S 37 [fc u,.one (.p (.int .u8 76))] (bK false))(D:aC S 37 [fc u,.one (.p (.int .u8 79))] (bK false))(A:∀a b c:Nat,aC S 59 [eQ F f,dp k a b c false false 0] (fy (v a b c))):
  aC S 17 [dQ F f,aq k] (.one (bn fN 7 (bh (v_ (max (I f) 1) (if j then max (I f) 1 else 1) (if pc then max (I f) 1 else 1) k v)))):=by
 obtain⟨x,r,q,z,uo⟩:=WQ h;have L:S.lone 1088192064:=ah;obtain⟨N,hN⟩:∃N,max (I f) 1=N:=⟨_,rfl⟩;have g:(if(1:Int)>(I f:Int)then(1:Int)else(I f:Int))=(N:Int):=by split<;>omega
 have H:N<=400:=J;rw[hN];refine bG adY ?_;cases j<;>cases pc
 all_goals
  simp only[go_sem,Bg,lN,lO n,XC,bl z (uo _ _ L),kI,ai B,ai m,y,g];refine agV (G:=1) q H ?_ ?_ E D A ?_ ?_ ?_ ?_ ?_ ?_ ?_ ?_ ?_;all_goals first
   |omega
   |(simp only[go_sem];first|done|rfl|trace_state)
end
def dK (i:Nat):Bool:=decide (0<i)
def lj(p:Bool):Nat:=if p then 2 else 1
def aP (p:Bool)(i:Nat):Int:=if p then 2*(i:Int)-1 else 0
def fF(k:Int)(a b c:Nat)(v:Bool->Bool->Int->Int)(l o:Bool)(s:Int):dm:=if v l o s=0 then [⟨k,a,b,c,l,o,s⟩]else []
def qw(k:Int)(a b c:Nat)(v:Bool->Bool->Int->Int)(p:Bool)(i j:Nat):dm:=(List.range (lj p)).flatMap λn=>fF k a b c v (dK i) (dK j) (aP p n)
def s3(k:Int)(a b c:Nat)(v:Bool->Bool->Int->Int)(p:Bool)(i:Nat):dm:=(List.range 2).flatMap (qw k a b c v p i)
def lY(k:Int)(a b c:Nat)(v:Bool->Bool->Int->Int)(p:Bool):dm:=(List.range 2).flatMap (s3 k a b c v p)
def Uh(k:Int)(a b c:Nat)(v:Bool->Bool->Int->Int)(l o:Bool)(s:Int):I (fF k a b c v l o s)<=1:=by unfold fF;split<;>simp
def Kg{α:Type}{f:Nat->List α}{B:Nat}:∀ {n:Nat},(∀i,i<n->I (f i)<=B)->I ((List.range n).flatMap f)<=B*n
 |0,_=>bC _
 |n+1,h=>by have j:=Kg λi H=>h i (Oq H);have g:=h n (Nw n);rw[j0,qW,ep,Nat.mul_succ];omega
def Wg(p:Bool):lj p<=2:=by unfold lj;split<;>omega
def Oj(k:Int)(a b c:Nat)(v:Bool->Bool->Int->Int)(p:Bool)(i j:Nat):I (qw k a b c v p i j)<=2:=by have h:=Kg (f:=λn=>fF k a b c v (dK i) (dK j) (aP p n)) (B:=1) (n:=lj p) λ_ _=>Uh ..;have:=Wg p;unfold qw;omega
def TO(k:Int)(a b c:Nat)(v:Bool->Bool->Int->Int)(p:Bool)(i:Nat):I (s3 k a b c v p i)<=4:=Kg (B:=2) λ_ _=>Oj ..
def IN(k:Int)(a b c:Nat)(v:Bool->Bool->Int->Int)(p:Bool):I (lY k a b c v p)<=8:=Kg (B:=4) λ_ _=>TO ..
def VT(a b:dm):bh (a++b)=bh a++bh b:=by simp[bh]
section
variable {F:Nat} {f:aI}
def sH:dC:=[[.bool false],[.bool true]]
def s5(p:Bool):dC:=(List.range (lj p)).map λi=>[.int .i64 (aP p i)]
def Jr{i:Nat}(h:i<2):sH[i]?=some [.bool (dK i)]:=by
 rcases i with _|_|i
 .rfl
 .rfl
 omega
def aaj{p:Bool}{i:Nat}(h:i<lj p):(s5 p)[i]?=some [.int .i64 (aP p i)]:=by simp[s5,h]
def am5(p:Bool):I (s5 p)=lj p:=by simp[s5]
def sn(k:Int)(a b c:Nat)(l o:Bool)(s:Int):dk:=[.p (.int .i64 k),.p (.int .i64 a),.p (.int .i64 b),.p (.int .i64 c),.p (.bool l),.p (.bool o),.p (.int .i64 s)]
def Xb{k:Int}{a b c:Nat}{v:Bool->Bool->Int->Int}{p:Bool}{X:Nat}(ap:X=2432448000\/X=2432576000)
  (hv:∀(l o:Bool) (s:Int),aC S 59 [eQ F f,dp k a b c l o s] (fy (v l o s))) {blk:aB}
  (x:g 3=.one (.bg 2432000000 1 0)) (q:g 4=.one (.bg 2432000064 1 0)) (z:g 7=.one (.p .nils)) (u:g 8=.one (.hsl 2432384000 1 1 0 2)) (y:g 9=.one (.hsl X 1 1 0 (lj p))) (h:g 10=aq 0)
  (B:blk 2432000000=(1,some (.var (qZ F f)))) (D:blk 2432000064=(1,some (.var (sn k a b c false false 0)))) (b8:blk 2432384000=(1,some (.arr 4 1 sH))) (A:blk X=(1,some (.arr 3 1 (s5 p)))):
  W S .all (.loop Cs) (kZ 0 (qm S .all Kx (nk .all Az.results λw blk=>∃r,r=RV.one (bn fN 7 (bh (lY k a b c v p)))/\hJ blk w=some r))) g blk:=by
 have gy:=Wg p;have hsl:=am5 p;have mE:I sH=2:=rfl;rcases ap with rfl|rfl
 .refine cD (λi g blk=>g 3=.one (.bg 2432000000 1 0)/\g 4=.one (.bg 2432000064 1 0)/\g 8=.one (.hsl 2432384000 1 1 0 2)/\g 9=.one (.hsl 2432448000 1 1 0 (lj p))/\g 10=aq i/\blk 2432000000=(1,some (.var (qZ F f)))/\(∃l o s,blk 2432000064=(1,some (.var (sn k a b c l o s))))/\blk 2432384000=(1,some (.arr 4 1 sH))/\blk 2432448000=(1,some (.arr 3 1 (s5 p)))/\ ∃H,g 7=.one H/\I ((List.range i).flatMap (s3 k a b c v p))<=4*i/\aW 2433344192 fN 7 (bh ((List.range i).flatMap (s3 k a b c v p))) (.one H) blk) 0 2 (bC _) ⟨x,q,u,y,h,B,⟨_,_,_,D⟩,b8,A,_,z,aG,aW.nil⟩ ?_;clear x q z u y h B D b8 A;rintro i g blk hi ⟨x,q,u,y,h,B,D,b8,A,ci,z,r4,gi⟩
  by_cases O:i<2
  .have nN:((i:Int)<2):=J;have w1:=bJ (n:=i) J;have si:=qW (s3 k a b c v p) i;have an:=TO k a b c v p i;generalize am:(List.range i).flatMap (s3 k a b c v p)=N at*;simp only[go_sem,Cs,x,q,z,u,y,h,nN]
   refine cD (λj g blk=>g 3=.one (.bg 2432000000 1 0)/\g 4=.one (.bg 2432000064 1 0)/\g 8=.one (.hsl 2432384000 1 1 0 2)/\g 9=.one (.hsl 2432448000 1 1 0 (lj p))/\g 10=aq i/\g 11=aq j/\blk 2432000000=(1,some (.var (qZ F f)))/\(∃l o s,blk 2432000064=(1,some (.var (sn k a b c l o s))))/\blk 2432384000=(1,some (.arr 4 1 sH))/\blk 2432448000=(1,some (.arr 3 1 (s5 p)))/\ ∃H,g 7=.one H/\I (N++(List.range j).flatMap (qw k a b c v p i))<=4*i+2*j/\aW 2433344192 fN 7 (bh (N++(List.range j).flatMap (qw k a b c v p i))) (.one H) blk) 0 2 (bC _) ?_ ?_
   .simp only[go_sem,x,q,z,u,y,h,B,b8,A];exact⟨rfl,D,_,rfl,by simpa using r4,by simpa using gi⟩
   clear x q z u y h B D b8 A gi r4;rintro j g blk hj ⟨x,q,u,y,h,m,B,D,b8,A,cj,z,nQ,T⟩
   by_cases M:j<2
   .have zC:((j:Int)<2):=J;have w2:=bJ (n:=j) J;have sj:=qW (qw k a b c v p i) j;have ar:=Oj k a b c v p i j;generalize au:(List.range j).flatMap (qw k a b c v p i)=eb at*;simp only[go_sem,HY,x,q,z,u,y,h,m,zC]
    refine cD (λn g blk=>g 3=.one (.bg 2432000000 1 0)/\g 4=.one (.bg 2432000064 1 0)/\g 8=.one (.hsl 2432384000 1 1 0 2)/\g 9=.one (.hsl 2432448000 1 1 0 (lj p))/\g 10=aq i/\g 11=aq j/\g 12=aq n/\blk 2432000000=(1,some (.var (qZ F f)))/\(∃l o s,blk 2432000064=(1,some (.var (sn k a b c l o s))))/\blk 2432384000=(1,some (.arr 4 1 sH))/\blk 2432448000=(1,some (.arr 3 1 (s5 p)))/\ ∃H,g 7=.one H/\I (N++eb++(List.range n).flatMap λn=>fF k a b c v (dK i) (dK j) (aP p n))<=4*i+2*j+n/\aW 2433344192 fN 7 (bh (N++eb++(List.range n).flatMap λn=>fF k a b c v (dK i) (dK j) (aP p n))) (.one H) blk) 0 (lj p) (bC _) ?_ ?_
    .simp only[go_sem,x,q,z,u,y,h,m,B,b8,A];exact⟨rfl,D,_,rfl,by simpa using nQ,by simpa using T⟩
    clear x q z u y h m B D b8 A T nQ;rintro n g blk hn ⟨x,q,u,y,h,m,E,B,⟨l0,o0,s0,D⟩,b8,A,cn,z,kD,Z⟩
    by_cases Y:n<lj p
    .have IP:((n:Int)<(lj p:Int)):=J;have w3:=bJ (n:=n) J;have cG:=qW (λn=>fF k a b c v (dK i) (dK j) (aP p n)) n;have Ii:=Jr O;have Ij:=Jr M;have ou:=aaj Y;have pv:=hv (dK i) (dK j) (aP p n);have dt:=Uh k a b c v (dK i) (dK j) (aP p n);have IQ:n<I (s5 p):=J;have IC:i<I sH:=O;have IG:j<I sH:=M;by_cases R:v (dK i) (dK j) (aP p n)=0
     .have yg:(v (dK i) (dK j) (aP p n)==0):=by rw[R];rfl
      have L:fF k a b c v (dK i) (dK j) (aP p n)=[⟨k,a,b,c,dK i,dK j,aP p n⟩]:=aM R;generalize(List.range n).flatMap (λn=>fF k a b c v (dK i) (dK j) (aP p n))=ec at*;simp only[go_sem,B_,x,q,z,u,y,h,m,E,B,D,b8,A,IP,Y,O,M,nN,zC,IC,IG,IQ,Ii,Ij,ou,mE,hsl,sn,Cx,dj pv,yg];refine⟨aw,?_⟩;refine iR (id:=2433344192) (q:=2433344192) (j:=bh (N++eb++ec)) (A:=[db.ps ⟨k,a,b,c,dK i,dK j,aP p n⟩]) (Z.of_eq (by simp only[bj,Nat.reduceEqDiff,if_false])) (by simp only[eO,bj,if_true];rfl) (.inl rfl) (by rw[j4];simp only[dE,eR];omega) λc2 ak g1 Q=>?_
      have Co:=(Q 2432000000 U U).trans (by simp only[bj,Nat.reduceEqDiff,if_false];exact B);have ag:ak 2432000064=(1,some (.var (sn k a b c (dK i) (dK j) (aP p n)))):=(Q 2432000064 U U).trans (by simp only[bj,Nat.reduceEqDiff,if_true,if_false];rfl);have Eu:=(Q 2432384000 U U).trans (by simp only[bj,Nat.reduceEqDiff,if_false];exact b8);have ab:=(Q 2432448000 U U).trans (by simp only[bj,Nat.reduceEqDiff,if_false];exact A);simp only[go_sem,x,q,u,y,h,m,E,w3];refine⟨Y,Co,⟨_,_,_,ag⟩,Eu,ab,c2,rfl,?_,?_⟩
      .rw[cG,L,<-jL,ep];simp only[dE,eR];omega
      rw[cG,L,<-jL,VT];exact g1
     have yg:(v (dK i) (dK j) (aP p n)==0)=false:=by simpa using R
     have L:fF k a b c v (dK i) (dK j) (aP p n)=[]:=aD R;generalize(List.range n).flatMap (λn=>fF k a b c v (dK i) (dK j) (aP p n))=ec at*;simp only[go_sem,B_,x,q,z,u,y,h,m,E,B,D,b8,A,IP,Y,O,M,nN,zC,IC,IG,IQ,Ii,Ij,ou,mE,hsl,sn,Cx,dj pv,yg,w3];refine⟨aw,?_⟩;refine⟨⟨dK i,dK j,aP p n,rfl⟩,_,rfl,?_,?_⟩
     .rw[cG,L,jE];omega
     rw[cG,L,jE];exact Z.of_eq (by simp only[bj,Nat.reduceEqDiff,if_false])
    have aY:n=lj p:=J;subst aY;have e2:(List.range (lj p)).flatMap (λn=>fF k a b c v (dK i) (dK j) (aP p n))=qw k a b c v p i j:=rfl;rw[e2]at kD Z;simp only[go_sem,B_,Vc,x,q,z,u,y,h,m,E,dF,w2];refine⟨M,B,⟨_,_,_,D⟩,b8,A,_,rfl,?_,?_⟩
    .rw[sj,<-jL,ep]at*;simp only[ep]at*;omega
    rw[sj,<-jL];exact Z
   have ad:j=2:=J;subst ad;have e2:(List.range 2).flatMap (qw k a b c v p i)=s3 k a b c v p i:=rfl;rw[e2]at nQ T;have lr:¬(((2:Nat):Int)<2):=U;simp only[go_sem,HY,Oy,x,q,z,u,y,h,m,lr,w1];refine⟨O,B,D,b8,A,_,rfl,?_,?_⟩
   .rw[si,ep]at*;simp only[ep]at*;omega
   rw[si];exact T
  have o9:i=2:=J;subst o9;have lr:¬(((2:Nat):Int)<2):=U;simp only[go_sem,Cs,Kx,Az,x,q,z,u,y,h,lr];exact⟨_,rfl,nV gi⟩
 refine cD (λi g blk=>g 3=.one (.bg 2432000000 1 0)/\g 4=.one (.bg 2432000064 1 0)/\g 8=.one (.hsl 2432384000 1 1 0 2)/\g 9=.one (.hsl 2432576000 1 1 0 (lj p))/\g 10=aq i/\blk 2432000000=(1,some (.var (qZ F f)))/\(∃l o s,blk 2432000064=(1,some (.var (sn k a b c l o s))))/\blk 2432384000=(1,some (.arr 4 1 sH))/\blk 2432576000=(1,some (.arr 3 1 (s5 p)))/\ ∃H,g 7=.one H/\I ((List.range i).flatMap (s3 k a b c v p))<=4*i/\aW 2433344192 fN 7 (bh ((List.range i).flatMap (s3 k a b c v p))) (.one H) blk) 0 2 (bC _) ⟨x,q,u,y,h,B,⟨_,_,_,D⟩,b8,A,_,z,aG,aW.nil⟩ ?_;clear x q z u y h B D b8 A;rintro i g blk hi ⟨x,q,u,y,h,B,D,b8,A,ci,z,r4,gi⟩
 by_cases O:i<2
 .have nN:((i:Int)<2):=J;have w1:=bJ (n:=i) J;have si:=qW (s3 k a b c v p) i;have an:=TO k a b c v p i;generalize am:(List.range i).flatMap (s3 k a b c v p)=N at*;simp only[go_sem,Cs,x,q,z,u,y,h,nN]
  refine cD (λj g blk=>g 3=.one (.bg 2432000000 1 0)/\g 4=.one (.bg 2432000064 1 0)/\g 8=.one (.hsl 2432384000 1 1 0 2)/\g 9=.one (.hsl 2432576000 1 1 0 (lj p))/\g 10=aq i/\g 11=aq j/\blk 2432000000=(1,some (.var (qZ F f)))/\(∃l o s,blk 2432000064=(1,some (.var (sn k a b c l o s))))/\blk 2432384000=(1,some (.arr 4 1 sH))/\blk 2432576000=(1,some (.arr 3 1 (s5 p)))/\ ∃H,g 7=.one H/\I (N++(List.range j).flatMap (qw k a b c v p i))<=4*i+2*j/\aW 2433344192 fN 7 (bh (N++(List.range j).flatMap (qw k a b c v p i))) (.one H) blk) 0 2 (bC _) ?_ ?_
  .simp only[go_sem,x,q,z,u,y,h,B,b8,A];exact⟨rfl,D,_,rfl,by simpa using r4,by simpa using gi⟩
  clear x q z u y h B D b8 A gi r4;rintro j g blk hj ⟨x,q,u,y,h,m,B,D,b8,A,cj,z,nQ,T⟩
  by_cases M:j<2
  .have zC:((j:Int)<2):=J;have w2:=bJ (n:=j) J;have sj:=qW (qw k a b c v p i) j;have ar:=Oj k a b c v p i j;generalize au:(List.range j).flatMap (qw k a b c v p i)=eb at*;simp only[go_sem,HY,x,q,z,u,y,h,m,zC]
   refine cD (λn g blk=>g 3=.one (.bg 2432000000 1 0)/\g 4=.one (.bg 2432000064 1 0)/\g 8=.one (.hsl 2432384000 1 1 0 2)/\g 9=.one (.hsl 2432576000 1 1 0 (lj p))/\g 10=aq i/\g 11=aq j/\g 12=aq n/\blk 2432000000=(1,some (.var (qZ F f)))/\(∃l o s,blk 2432000064=(1,some (.var (sn k a b c l o s))))/\blk 2432384000=(1,some (.arr 4 1 sH))/\blk 2432576000=(1,some (.arr 3 1 (s5 p)))/\ ∃H,g 7=.one H/\I (N++eb++(List.range n).flatMap λn=>fF k a b c v (dK i) (dK j) (aP p n))<=4*i+2*j+n/\aW 2433344192 fN 7 (bh (N++eb++(List.range n).flatMap λn=>fF k a b c v (dK i) (dK j) (aP p n))) (.one H) blk) 0 (lj p) (bC _) ?_ ?_
   .simp only[go_sem,x,q,z,u,y,h,m,B,b8,A];exact⟨rfl,D,_,rfl,by simpa using nQ,by simpa using T⟩
   clear x q z u y h m B D b8 A T nQ;rintro n g blk hn ⟨x,q,u,y,h,m,E,B,⟨l0,o0,s0,D⟩,b8,A,cn,z,kD,Z⟩
   by_cases Y:n<lj p
   .have IP:((n:Int)<(lj p:Int)):=J;have w3:=bJ (n:=n) J;have cG:=qW (λn=>fF k a b c v (dK i) (dK j) (aP p n)) n;have Ii:=Jr O;have Ij:=Jr M;have ou:=aaj Y;have pv:=hv (dK i) (dK j) (aP p n);have dt:=Uh k a b c v (dK i) (dK j) (aP p n);have IQ:n<I (s5 p):=J;have IC:i<I sH:=O;have IG:j<I sH:=M;by_cases R:v (dK i) (dK j) (aP p n)=0
    .have yg:(v (dK i) (dK j) (aP p n)==0):=by rw[R];rfl
     have L:fF k a b c v (dK i) (dK j) (aP p n)=[⟨k,a,b,c,dK i,dK j,aP p n⟩]:=aM R;generalize(List.range n).flatMap (λn=>fF k a b c v (dK i) (dK j) (aP p n))=ec at*;simp only[go_sem,B_,x,q,z,u,y,h,m,E,B,D,b8,A,IP,Y,O,M,nN,zC,IC,IG,IQ,Ii,Ij,ou,mE,hsl,sn,Cx,dj pv,yg];refine⟨aw,?_⟩;refine iR (id:=2433344192) (q:=2433344192) (j:=bh (N++eb++ec)) (A:=[db.ps ⟨k,a,b,c,dK i,dK j,aP p n⟩]) (Z.of_eq (by simp only[bj,Nat.reduceEqDiff,if_false])) (by simp only[eO,bj,if_true];rfl) (.inl rfl) (by rw[j4];simp only[dE,eR];omega) λc2 ak g1 Q=>?_
     have Co:=(Q 2432000000 U U).trans (by simp only[bj,Nat.reduceEqDiff,if_false];exact B);have ag:ak 2432000064=(1,some (.var (sn k a b c (dK i) (dK j) (aP p n)))):=(Q 2432000064 U U).trans (by simp only[bj,Nat.reduceEqDiff,if_true,if_false];rfl);have Eu:=(Q 2432384000 U U).trans (by simp only[bj,Nat.reduceEqDiff,if_false];exact b8);have ab:=(Q 2432576000 U U).trans (by simp only[bj,Nat.reduceEqDiff,if_false];exact A);simp only[go_sem,x,q,u,y,h,m,E,w3];refine⟨Y,Co,⟨_,_,_,ag⟩,Eu,ab,c2,rfl,?_,?_⟩
     .rw[cG,L,<-jL,ep];simp only[dE,eR];omega
     rw[cG,L,<-jL,VT];exact g1
    have yg:(v (dK i) (dK j) (aP p n)==0)=false:=by simpa using R
    have L:fF k a b c v (dK i) (dK j) (aP p n)=[]:=aD R;generalize(List.range n).flatMap (λn=>fF k a b c v (dK i) (dK j) (aP p n))=ec at*;simp only[go_sem,B_,x,q,z,u,y,h,m,E,B,D,b8,A,IP,Y,O,M,nN,zC,IC,IG,IQ,Ii,Ij,ou,mE,hsl,sn,Cx,dj pv,yg,w3];refine⟨aw,?_⟩;refine⟨⟨dK i,dK j,aP p n,rfl⟩,_,rfl,?_,?_⟩
    .rw[cG,L,jE];omega
    rw[cG,L,jE];exact Z.of_eq (by simp only[bj,Nat.reduceEqDiff,if_false])
   have aY:n=lj p:=J;subst aY;have e2:(List.range (lj p)).flatMap (λn=>fF k a b c v (dK i) (dK j) (aP p n))=qw k a b c v p i j:=rfl;rw[e2]at kD Z;simp only[go_sem,B_,Vc,x,q,z,u,y,h,m,E,dF,w2];refine⟨M,B,⟨_,_,_,D⟩,b8,A,_,rfl,?_,?_⟩
   .rw[sj,<-jL,ep]at*;simp only[ep]at*;omega
   rw[sj,<-jL];exact Z
  have ad:j=2:=J;subst ad;have e2:(List.range 2).flatMap (qw k a b c v p i)=s3 k a b c v p i:=rfl;rw[e2]at nQ T;have lr:¬(((2:Nat):Int)<2):=U;simp only[go_sem,HY,Oy,x,q,z,u,y,h,m,lr,w1];refine⟨O,B,D,b8,A,_,rfl,?_,?_⟩
  .rw[si,ep]at*;simp only[ep]at*;omega
  rw[si];exact T
 have o9:i=2:=J;subst o9;have lr:¬(((2:Nat):Int)<2):=U;simp only[go_sem,Cs,Kx,Az,x,q,z,u,y,h,lr];exact⟨_,rfl,nV gi⟩
def KO{k:Int}{a b c:Nat}{v:Bool->Bool->Int->Int}{j m g:Bool}(hp:(j||m))(y:aC S 37 [fc u,.one (.p (.int .u8 76))] (bK j))(x:aC S 37 [fc u,.one (.p (.int .u8 79))] (bK m))(q:aC S 37 [fc u,.one (.p (.int .u8 83))] (bK g))
  (H:∀(l o:Bool) (s:Int),aC S 59 [eQ F f,dp k a b c l o s] (fy (v l o s))):aC S 38 [eQ F f,dp k a b c false false 0,fc u] (.one (bn fN 7 (bh (lY k a b c v g)))):=by
 suffices h:∃r,r=.one (bn fN 7 (bh (lY k a b c v g)))/\aC S 38 [eQ F f,dp k a b c false false 0,fc u] r by obtain⟨r,rfl,n⟩:=h;exact n
 refine vm rfl XU (gU rfl) ?_;cases j<;>cases m<;>cases g
 all_goals first
  |cases hp
  |skip
 all_goals
  simp only[go_sem,Az,kI,ai y,ai x,ai q];first
   |refine Xb (X:=2432576000) (p:=true) (.inr rfl) H ?_ ?_ ?_ ?_ ?_ ?_ ?_ ?_ ?_ ?_
   |refine Xb (X:=2432448000) (p:=false) (.inl rfl) H ?_ ?_ ?_ ?_ ?_ ?_ ?_ ?_ ?_ ?_
  all_goals(simp only[go_sem];first|done|rfl|trace_state)
end
def uj(h:Nat)(q:Nat->Nat->Nat->dm)(a b:Nat):dm:=(List.range h).flatMap (q a b)
def xj(j h:Nat)(q:Nat->Nat->Nat->dm)(a:Nat):dm:=(List.range j).flatMap (uj h q a)
def Br(n j h:Nat)(q:Nat->Nat->Nat->dm):dm:=(List.range n).flatMap (xj j h q)
def WO(l:dm):ao 7 (bh l):=by unfold ao bh;simp[db.ps]
section
variable {F:Nat} {f:aI}
def ami{x:PV}(hx:x.norm=.sl (g_ (cZ F f))){k:Int}{G:Nat}(hN:N<=401)(an:j<=401)(zG:h<=401)(jI:∀a b c:Nat,aC S 38 [eQ F f,dp k a b c false false 0,fc u] (.one (bn fN 7 (bh (q a b c)))))(Y:∀a b c,I (q a b c)<=8){blk:aB}
  (A:g 1=aq k) (B:g 5=.one (.p .nils)) (D:g 6=fc u) (z:g 7=.one (.bg 1088192128 G 0)) (y:g 8=aq N) (E:g 9=aq j) (m:g 10=aq h) (r:g 11=aq 0) (H:blk 1088192128=(G,some (.var [.p (.int .i64 F),.p (jF f),.p (.int .i64 (I f)),.p x]))):
  W S .all (.loop Aw) (kZ 0 (qm S .all E6 (nk .all Bg.results λw blk=>hJ blk w=some (.one (bn fN 7 (bh (Br N j h q))))))) g blk:=by
 have lo:S.lone 1089344512:=ah;refine cD (λa g blk=>g 1=aq k/\g 6=fc u/\g 7=.one (.bg 1088192128 G 0)/\g 8=aq N/\g 9=aq j/\g 10=aq h/\g 11=aq a/\blk 1088192128=(G,some (.var [.p (.int .i64 F),.p (jF f),.p (.int .i64 (I f)),.p x]))/\ ∃O,g 5=.one O/\I ((List.range a).flatMap (xj j h q))<=1290000*a/\aW 1089344576 fN 7 (bh ((List.range a).flatMap (xj j h q))) (.one O) blk) 0 N (bC _) ⟨A,D,z,y,E,m,r,H,_,B,aG,aW.nil⟩ ?_;clear A B D z y E m r H;rintro a g blk ha ⟨A,D,z,y,E,m,r,H,ca,B,Q,L⟩
 by_cases au:a<N
 .have aL:((a:Int)<(N:Int)):=J;have w1:=bJ (n:=a) J;have sa:=qW (xj j h q) a;generalize am:(List.range a).flatMap (xj j h q)=M at*;simp only[go_sem,Aw,A,B,D,z,y,E,m,r,aL];refine cD (λb g blk=>g 1=aq k/\g 6=fc u/\g 7=.one (.bg 1088192128 G 0)/\g 8=aq N/\g 9=aq j/\g 10=aq h/\g 11=aq a/\g 12=aq b/\blk 1088192128=(G,some (.var [.p (.int .i64 F),.p (jF f),.p (.int .i64 (I f)),.p x]))/\ ∃O,g 5=.one O/\I (M++(List.range b).flatMap (uj h q a))<=1290000*a+3210*b/\aW 1089344576 fN 7 (bh (M++(List.range b).flatMap (uj h q a))) (.one O) blk) 0 j (bC _) ?_ ?_
  .simp only[go_sem,A,B,D,z,y,E,m,r,H];exact⟨rfl,_,rfl,by simpa using Q,by simpa using L⟩
  clear A B D z y E m r H L Q;rintro b g blk hb ⟨A,D,z,y,E,m,r,v,H,ca,B,Q,L⟩
  by_cases ag:b<j
  .have SV:((b:Int)<(j:Int)):=J;have w2:=bJ (n:=b) J;have sb:=qW (uj h q a) b;generalize ap:(List.range b).flatMap (uj h q a)=R at*;simp only[go_sem,G3,A,B,D,z,y,E,m,r,v,SV];refine cD (λc g blk=>g 1=aq k/\g 6=fc u/\g 7=.one (.bg 1088192128 G 0)/\g 8=aq N/\g 9=aq j/\g 10=aq h/\g 11=aq a/\g 12=aq b/\g 13=aq c/\blk 1088192128=(G,some (.var [.p (.int .i64 F),.p (jF f),.p (.int .i64 (I f)),.p x]))/\ ∃O,g 5=.one O/\I (M++R++(List.range c).flatMap (q a b))<=1290000*a+3210*b+8*c/\aW 1089344576 fN 7 (bh (M++R++(List.range c).flatMap (q a b))) (.one O) blk) 0 h (bC _) ?_ ?_
   .simp only[go_sem,A,B,D,z,y,E,m,r,v,H];exact⟨rfl,_,rfl,by simpa using Q,by simpa using L⟩
   clear A B D z y E m r v H L Q;rintro c g blk hc ⟨A,D,z,y,E,m,r,v,T,H,ca,B,Q,L⟩
   by_cases IJ:c<h
   .have SW:((c:Int)<(h:Int)):=J;have w3:=bJ (n:=c) J;have sc:=qW (q a b) c;have pf:=jI a b c;have Il:=Y a b c;have ab:=WO (q a b c);have dt:I (bh (q a b c))<=8:=by rw[j4];exact Il
    generalize ar:(List.range c).flatMap (q a b)=X at*;generalize ng:q a b c=qs at*;simp only[go_sem,GS,A,B,D,z,y,E,m,r,v,T,H,hx,SW,VF,bl pf (Gw lo)];have dr:I (bh (M++R++X))=I (M++R++X):=cT ..;refine iR (id:=1089344576) (q:=1089344576) (j:=bh (M++R++X)) (A:=bh qs) L (Oz _) (.inr ab) J λc2 ak g1 ba=>?_;have Hl:=ba 1088192128 U U;rw[H]at Hl;simp only[go_sem,A,B,D,z,y,E,m,r,v,T,w3];refine⟨IJ,Hl,c2,rfl,?_,?_⟩
    .rw[sc,<-jL,ep];omega
    rw[sc,<-jL,show bh (M++R++X++qs)=bh (M++R++X)++bh qs by simp[bh]];exact g1
   have l7:c=h:=J;subst l7;have e2:(List.range c).flatMap (q a b)=uj c q a b:=rfl;rw[e2]at Q L;simp only[go_sem,GS,NB,A,B,D,z,y,E,m,r,v,T,dF,w2];refine⟨ag,H,_,rfl,?_,?_⟩
   .rw[sb,<-jL];omega
   rw[sb,<-jL];exact L
  have ad:b=j:=J;subst ad;have e2:(List.range b).flatMap (uj h q a)=xj b h q a:=rfl;rw[e2]at Q L;simp only[go_sem,G3,NV,A,B,D,z,y,E,m,r,v,dF,w1];refine⟨au,H,_,rfl,?_,?_⟩
  .rw[sa];omega
  rw[sa];exact L
 have Z:a=N:=J;subst Z;simp only[go_sem,Aw,E6,Bg,A,B,D,z,y,E,m,r,dF];exact nV L
def DC(h:f=[]\/ch F f)(hl:I f<=400){k:Int}{m pc:Bool}{g:Bool}(R:F<=40)(B:(k==2)=g)(y:aC S 35 [aq k] (sP u))(E:aC S 37 [fc u,.one (.p (.int .u8 66))] (bK m))(v:aC S 37 [fc u,.one (.p (.int .u8 67))] (bK pc))(L:∀a b c:Nat,aC S 38 [eQ F f,dp k a b c false false 0,fc u] (.one (bn fN 7 (bh (q a b c)))))(H:∀a b c,I (q a b c)<=8):
  aC S 17 [dQ F f,aq k] (.one (bn fN 7 (bh (Br (max (I f) 1) (if g then F+1 else if m then max (I f) 1 else 1) (if g then max (I f) 1+1 else if pc then max (I f) 1 else 1) q)))):=by
 obtain⟨x,r,A,D,uo⟩:=WQ h;have M:S.lone 1088192064:=ah;obtain⟨N,hN⟩:∃N,max (I f) 1=N:=⟨_,rfl⟩;have j:(if(1:Int)>(I f:Int)then(1:Int)else(I f:Int))=(N:Int):=by split<;>omega
 have z:N<=400:=J;rw[hN];refine bG adY ?_;have Q:IntKind.i64.wrap ((F:Int)+1)=((F+1:Nat):Int):=bJ (n:=F) J;have O:IntKind.i64.wrap ((N:Int)+1)=((N+1:Nat):Int):=bJ (n:=N) J;cases g<;>cases m<;>cases pc
 all_goals
  simp only[go_sem,Bg,lN,lO y,XC,bl D (uo _ _ M),kI,ai E,ai v,B,j,Q,O];refine ami (G:=1) A J ?_ ?_ L H ?_ ?_ ?_ ?_ ?_ ?_ ?_ ?_ ?_;all_goals first
   |omega
   |(simp only[go_sem];first|done|rfl|trace_state)
end
def yA(x y:db):Prop:=x.k<y.k\/(x.k=y.k/\wJ x y)
def abK{x y:db}(h:yA x y):¬yA y x:=by unfold yA wJ lZ at*;simp only[jC,cq,fH]at*;omega
def Xx{R:db->db->Prop}(n:∀x y,R x y-> ¬R y x):∀ {A B:dm},A.Pairwise R->B.Pairwise R->(∀m,m∈A↔m∈B)->A=B:=by
 intro A
 induction A with
 |nil=>
  intro B _ _ h;cases B with
  |nil=>rfl
  |cons b B=>exact absurd ((h b).2 aG) aG
 |cons a A u=>
  intro B j g h;cases B with
  |nil=>exact absurd ((h a).1 aG) aG
  |cons b B=>
   rw[pW]at j g;have e:a=b:=by apply Classical.byContradiction;intro q;have v:a∈B:=(dL.1 ((h a).1 aG)).resolve_left q;have r:b∈A:=(dL.1 ((h b).2 aG)).resolve_left (Ne.symm q);exact n _ _ (j.1 b r) (g.1 a v)
   subst e;rw[u j.2 g.2 λm=>⟨λf=>?_,λf=>?_⟩]
   .rcases dL.1 ((h m).1 (s4 _ f))with e|e
    .subst e;exact absurd (j.1 m f) λH=>n m m H H
    exact e
   rcases dL.1 ((h m).2 (s4 _ f))with e|e
   .subst e;exact absurd (g.1 m f) λH=>n m m H H
   exact e
section
variable {n j h:Nat} {k:Int} {v:Nat->Nat->Nat->Int} {a b c:Nat} {m:db}
def UY:m∈jz k v a b c↔v a b c=0/\m=⟨k,a,b,c,false,false,0⟩:=by
 unfold jz;split
 .rename_i h;simp[h]
 rename_i h;simp[h]
def UI:m∈vq h k v a b↔ ∃c,c<h/\v a b c=0/\m=⟨k,a,b,c,false,false,0⟩:=by unfold vq;simp only[pR,f_,UY]
def U_:m∈vG j h k v a↔ ∃b c,b<j/\c<h/\v a b c=0/\m=⟨k,a,b,c,false,false,0⟩:=by unfold vG;simp only[pR,f_,UI];exact⟨λ⟨b,f,c,H,g⟩=>⟨b,c,f,H,g⟩,λ⟨b,c,f,H,g⟩=>⟨b,f,c,H,g⟩⟩
def XZ:m∈v_ n j h k v↔ ∃a b c,a<n/\b<j/\c<h/\v a b c=0/\m=⟨k,a,b,c,false,false,0⟩:=by unfold v_;simp only[pR,f_,U_];exact⟨λ⟨a,g,b,c,H,q,f⟩=>⟨a,b,c,g,H,q,f⟩,λ⟨a,b,c,g,H,q,f⟩=>⟨a,g,b,c,H,q,f⟩⟩
def YS(n j h:Nat)(k:Int)(v:Nat->Nat->Nat->Int):(v_ n j h k v).Pairwise yA:=by
 unfold v_;refine UP.2 ⟨λa _=>?_,List.pairwise_lt_range.imp λg x f y H=>?_⟩
 .refine UP.2 ⟨λb _=>?_,List.pairwise_lt_range.imp λg x f y H=>?_⟩
  .refine UP.2 ⟨λc _=>?_,List.pairwise_lt_range.imp λg x f y H=>?_⟩
   .unfold jz;split
    .exact OE _ _
    exact List.Pairwise.nil
   obtain⟨_,rfl⟩:=UY.1 f;obtain⟨_,rfl⟩:=UY.1 H;refine .inr ⟨rfl,.inr ⟨rfl,?_⟩⟩;unfold lZ;simp only[jC,cq,fH,true_and];omega
  obtain⟨_,_,_,rfl⟩:=UI.1 f;obtain⟨_,_,_,rfl⟩:=UI.1 H;refine .inr ⟨rfl,.inr ⟨rfl,?_⟩⟩;unfold lZ;simp only[jC,cq,fH,true_and];omega
 obtain⟨_,_,_,_,_,rfl⟩:=U_.1 f;obtain⟨_,_,_,_,_,rfl⟩:=U_.1 H;refine .inr ⟨rfl,.inl ?_⟩;show((_:Nat):Int)<((_:Nat):Int);omega
end
section
variable {F:Nat} {L:aI}
abbrev Yz(k:Int)(a b:Nat):db:=⟨k,a,b,0,false,false,0⟩
abbrev W7(k:Int)(a b c:Nat):db:=⟨k,a,b,c,false,false,0⟩
def aak{k a b c aP:Int}{l o:Bool}(g:k=3\/k=6):bV F L k a b c l o aP↔ ∃A B:Nat,A<B/\B<I L/\a=A/\b=B/\c=0/\l=false/\o=false/\aP=0:=by
 unfold bV;rcases g with rfl|rfl
 all_goals
  simp only[Int.reduceEq,if_true,if_false,false_or,or_false,true_or,or_true,cq,hY,c6,fH];constructor
  .rintro ⟨rfl,rfl,rfl,f,rfl,H,n⟩
   obtain⟨A,rfl,j⟩:=ie f;obtain⟨B,rfl,h⟩:=ie H;exact⟨A,B,J,h,rfl,rfl,rfl,rfl,rfl,rfl⟩
  rintro⟨A,B,m,h,rfl,rfl,rfl,rfl,rfl,rfl⟩
  exact⟨rfl,rfl,rfl,by unfold gW;simp;omega,rfl,by unfold gW;simp;omega,J⟩
def afs{a b c aP:Int}{l o:Bool}:bV F L 8 a b c l o aP↔ ∃A B f:Nat,A<B/\B<f/\f<I L/\a=A/\b=B/\c=f/\l=false/\o=false/\aP=0:=by
 unfold bV;simp only[Int.reduceEq,if_true,if_false,false_or,or_false,true_or,or_true,or_self,cq,hY,c6,fH];constructor
 .rintro ⟨rfl,rfl,rfl,g,H,j,u,n⟩
  obtain⟨A,rfl,r⟩:=ie g;obtain⟨B,rfl,q⟩:=ie H;obtain⟨f,rfl,h⟩:=ie j;exact⟨A,B,f,J,J,h,rfl,rfl,rfl,rfl,rfl,rfl⟩
 rintro⟨A,B,f,v,m,h,rfl,rfl,rfl,rfl,rfl,rfl⟩
 exact⟨rfl,rfl,rfl,by unfold gW;simp;omega,by unfold gW;simp;omega,by unfold gW;simp;omega,J,J⟩
def acK{a b:Nat}{m:Int}(A:a<b)(h:nD F L y [a,b] a)(aa:∀j,j<2->ja m a (cK F L (2*a+j)).aT r)(q:m≠8):Yz m a b∈r:=by
 have g:∀f:cM,tG f y [a,b]->ja m a f.aT r->Yz m a b∈r:=λf H aa=>by
  unfold tG at H;simp only[cq,c6,gL]at H;obtain⟨z,_,u⟩:=H;have E:∀e∈[a,b],∃d∈f.aT,d/2=e:=λe v=>by have x:=u e v;unfold rR at x;obtain⟨d,n,O⟩:=xz.1 (show 0<f.aT.countP λd=>d/2==e by omega);exact⟨d,n,c6.1 O⟩
  exact aa.1 q b A z (E a aG) (E b aG)
 unfold nD at h;rw[jC]at h;rcases h with h|h
 .exact g _ h (aa 0 U)
 exact g _ h (aa 1 U)
def arA{a b c:Nat}(z:a<b)(n:b<c)(h:nD F L y [a,b,c] a)(aa:∀j,j<2->ja 8 a (cK F L (2*a+j)).aT r):W7 8 a b c∈r:=by
 have g:∀f:cM,tG f y [a,b,c]->ja 8 a f.aT r->W7 8 a b c∈r:=λf H aa=>by
  unfold tG at H;simp only[cq,c6,gL]at H;obtain⟨x,_,q⟩:=H;have E:∀e∈[a,b,c],∃d∈f.aT,d/2=e:=λe u=>by have v:=q e u;unfold rR at v;obtain⟨d,m,O⟩:=xz.1 (show 0<f.aT.countP λd=>d/2==e by omega);exact⟨d,m,c6.1 O⟩
  exact aa.2 rfl b c z n x (E a aG) (E b aG) (E c aG)
 unfold nD at h;rw[jC]at h;rcases h with h|h
 .exact g _ h (aa 0 U)
 exact g _ h (aa 1 U)
end
end
end Go.Abs
