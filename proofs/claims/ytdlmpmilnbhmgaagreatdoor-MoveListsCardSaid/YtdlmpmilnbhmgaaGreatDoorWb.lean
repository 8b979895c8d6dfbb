/- A part. -/
import Derived.Test.YtdlmpmilnbhmgaaGreatDoorWa
set_option linter.all false
open List renaming length->I
set_option maxRecDepth 100000
set_option maxHeartbeats 16000000
namespace Go.Abs
variable{T g r u j:Nat}{n:bD}{q v:b_}{m:af}
section
variable{h:aI}{F:Nat}{f:Int}
def ek(f:Int)(l:af):Bool:=if l.kind==1 then(((decide (l.gate<0)||decide (f<l.gate))||l.id !=0)||l.sign !=0)||l.over else if l.kind==2 then(l.gate !=0||l.aK !=0)||(l.sign !=1&&l.sign != -1)else true
def aqR(f:Int)(l:af)(D u X x z B:PV):aC S 165 [xA l,.one (.p (.box [.box [.int .i64 f,D,u,X,x,z,B]]))] (bK (ek f l)):=by
 refine bG aqd ?_;cases g:(l.kind==1)with
 |true=>
  cases A:(decide (l.gate<0))with
  |true=>
   have v:(l.gate<0):=mX A;have h:ek f l:=by simp only[ek,g,A];rfl
   simp only[go_sem,sM,g,v,h,ae,ao];exact aw
  |false=>
   cases j:(decide (f<l.gate))with
   |true=>
    have v:¬(l.gate<0):=fJ A;have y:(f<l.gate):=mX j;have h:ek f l:=by simp only[ek,g,A,j];rfl
    simp only[go_sem,sM,g,v,y,h,ae,ao];exact aw
   |false=>
    cases m:(l.id !=0)with
    |true=>
     have v:¬(l.gate<0):=fJ A;have y:¬(f<l.gate):=fJ j;have h:ek f l:=by simp only[ek,g,A,j,m];rfl
     simp only[go_sem,sM,g,v,y,m,h,ae,ao];exact aw
    |false=>
     cases q:(l.sign !=0)with
     |true=>
      have v:¬(l.gate<0):=fJ A;have y:¬(f<l.gate):=fJ j;have h:ek f l:=by simp only[ek,g,A,j,m,q];rfl
      simp only[go_sem,sM,g,v,y,m,q,h,ae,ao];exact aw
     |false=>
      cases r:(l.over)with
      |true=>
       have v:¬(l.gate<0):=fJ A;have y:¬(f<l.gate):=fJ j;have h:ek f l:=by simp only[ek,g,A,j,m,q,r];rfl
       simp only[go_sem,sM,g,v,y,m,q,r,h,ae,ao];exact aw
      |false=>
       have v:¬(l.gate<0):=fJ A;have y:¬(f<l.gate):=fJ j;have h:ek f l=false:=by simp only[ek,g,A,j,m,q,r];rfl
       simp only[go_sem,sM,g,v,y,m,q,r,h,ae,ao];exact aw
 |false=>
  cases n:(l.kind==2)with
  |true=>
   cases A:(l.gate !=0)with
   |true=>
    have h:ek f l:=by simp only[ek,g,n,A];rfl
    simp only[go_sem,sM,g,n,A,h,ae,ao]
   |false=>
    cases j:(l.aK !=0)with
    |true=>
     have h:ek f l:=by simp only[ek,g,n,A,j];rfl
     simp only[go_sem,sM,g,n,A,j,h,ae,ao]
    |false=>
     cases m:(l.sign !=1)with
     |true=>
      cases q:(l.sign != -1)with
      |true=>
       have h:ek f l:=by simp only[ek,g,n,A,j,m,q];rfl
       simp only[go_sem,sM,g,n,A,j,m,q,h,ae,ao]
      |false=>
       have h:ek f l=false:=by simp only[ek,g,n,A,j,m,q];rfl
       simp only[go_sem,sM,g,n,A,j,m,q,h,ae,ao]
     |false=>
      have h:ek f l=false:=by simp only[ek,g,n,A,j,m];rfl
      simp only[go_sem,sM,g,n,A,j,m,h,ae,ao]
  |false=>
   have h:ek f l:=by simp only[ek,g,n];rfl
   simp only[go_sem,sM,g,n,h,ae,ao]
abbrev KR(f:Int)(x1 x2 x3 x4 x5 x6:PV):PV:=.fn 165 [] [.box [.box [.int .i64 f,x1,x2,x3,x4,x5,x6]]]
def akL(f:Int)(h:aI)(A u X x v z:PV)(hl:I h<=1000000)(g:A.norm=A/\u.norm=u/\X.norm=X/\x.norm=x/\v.norm=v/\z.norm=z):
  ∃k:Int,(0<=k↔h.any (ek f)=true)/\aC S 198 [.one (.p (jF h)),.one (.p (KR f A u X x v z))] (fy k):=by
 have M:∀r:Int,(∀(k:Nat) l,h[k]?=some l->ek f l->(∀(j:Nat) m,j<k->h[j]?=some m->ek f m=false)->r=k)->((∀(j:Nat) m,h[j]?=some m->ek f m=false)->r= -1)->
   aC S 198 [.one (.p (jF h)),.one (.p (KR f A u X x v z))] (fy r):=by
  intro r dD ui;refine bG aor ?_;simp only[go_sem,adm,ae,ao];refine cD (λk n blk=>n 0=.one (.p (jF h))/\n 1=.one (.p (KR f A u X x v z))/\n 7=aq (I h)/\n 8=aq k/\ ∀j m,j<k->h[j]?=some m->ek f m=false) 0 (I h) (bC _) ?_ ?_
  .simp only[go_sem];exact⟨rfl,λj m B=>absurd B (l_ j)⟩
  rintro k n blk T ⟨Q,q,F,L,g⟩
  by_cases au:k<I h
  .obtain⟨l,D⟩:=bq au;have Y:=iF D;have R:((k:Int)<(I h:Int)):=J;have w1:=bJ (n:=k) J;have E:=aqR f l A u X x v z;cases H:ek f l with
   |true=>rw[H]at E;have N:=dD k l D H g;subst N;simp only[go_sem,H8,Q,q,F,L,Y,cW,af.ps,R,ZE,ai E,ae,ao]
   |false=>
    rw[H]at E;simp only[go_sem,H8,Q,q,F,L,Y,cW,af.ps,R,w1,ZE,ai E,ae,ao];refine⟨au,λj m O y=>?_⟩;rcases jG.1 O with O|rfl
    .exact g j m O y
    rw[D]at y;cases y;exact H
  have:k=I h:=J;subst this;have N:=ui λj m y=>g j m (ct.1 y).1 y;subst N;simp only[go_sem,H8,abV,F,L,dF,ae,ao]
 cases ha:h.any (ek f)with
 |true=>
  have Z:h.findIdx (ek f)<I h:=aaf (by simpa using ha);refine⟨(h.findIdx (ek f):Nat),⟨λ_=>rfl,λ_=>J⟩,M _ ?_ ?_⟩
  .intro k l D H g;have T:=(ct.1 D).1;have q:ek f h[h.findIdx (ek f)]:=T3;rcases Ct (h.findIdx (ek f)) k with B|B|B
   .have:=g _ _ B (oO Z);rw[q]at this;cases this
   .rw[B]
   have:=List.not_of_lt_findIdx B;have e:h[k]=l:=by rw[oO T]at D;exact xH D
   rw[e,H]at this;simp at this
  intro g;have q:ek f h[h.findIdx (ek f)]:=T3;have:=g _ _ (oO Z);rw[q]at this;cases this
 |false=>refine⟨-1,⟨λB=>J,λB=>by cases B⟩,M _ ?_ (λ_=>rfl)⟩;intro k l D H _;have:=xM.1 ha l (bY D);exact(this H).elim
def aei(f:Int)(h:aI)(j x m X n g:PV)(hl:I h<=1000000)(v:j.norm=j/\x.norm=x/\m.norm=m/\X.norm=X/\n.norm=n/\g.norm=g):
  aC S 164 [.one (.p (jF h)),.one (.p (KR f j x m X n g))] (bK (h.any (ek f))):=by
 obtain⟨k,r,u⟩:=akL f h j x m X n g hl v;refine bG ai2 ?_;cases H:h.any (ek f)with
 |true=>have q:=r.2 H;simp only[go_sem,Ob,Yg,dj u,q,ae,ao]
 |false=>
  have q:¬0<=k:=λy=>by rw[r.1 y]at H;cases H
  simp only[go_sem,Ob,Yg,dj u,q,ae,ao]
abbrev G4(f:Int)(ls:aI)(x2 x3 x4 x5 x6:PV):PV:=.box [.int .i64 f,jF ls,x2,x3,x4,x5,x6]
def alC(f:Int)(h:aI)(x j X m g:PV)(hl:I h<=1000000)(H:x.norm=x/\j.norm=j/\X.norm=X/\m.norm=m/\g.norm=g):
  aC S 120 [.one (.p (G4 f h x j X m g))] (bK (!h.any (ek f))):=by
 have pc:=aei f h (jF h) x j X m g hl ⟨rfl,H.1,H.2.1,H.2.2.1,H.2.2.2.1,H.2.2.2.2⟩;refine bG ahy ?_;simp only[go_sem,Vp,amy,ai pc,H.1,H.2.1,H.2.2.1,H.2.2.2.1,H.2.2.2.2,ae,ao]
def aeQ(f:Int)(h:aI)(L:af)(x n X q g:PV)(hl:I h<=1000000)(j:h[0]?=some L):
  aC S 121 [.one (.p (G4 f h x n X q g))] (bK (L.kind==1&&aF af.aN h%2==0)):=by
 have m:=N8 f h hl;have v:=iF j;refine bG akS ?_;have E:((((aF af.aN h)%2:Nat):Int)==0)=(aF af.aN h%2==0):=by
  cases r:(aF af.aN h%2==0)with
  |true=>simp at r |-;omega
  |false=>simp at r |-;omega
 cases H:(L.kind==1)with
 |true=>simp only[go_sem,Ub,v,cW,af.ps,H,RU,dj m,hD,de,E,ae,ao]
 |false=>simp only[go_sem,Ub,v,cW,af.ps,H,ae,ao]
def rn(g:Nat)(l:af):Bool:=l.aN&&l.gate==(g:Int)
abbrev dY(ls:aI)(g:Nat):Nat:=aF (rn g) ls
def oD(h:aI)(F k:Nat):aA:=(List.range (F+1)).map λg=>dY (h.take k) g
def eF(h:aI)(F:Nat):aA:=(List.range (F+1)).map (dY h)
def Vu{k G:Nat}(H:G<=F):(oD h F k)[G]?=some (dY (h.take k) G):=by simp[oD,nH (show G<F+1 by omega)]
def TD(h:aI)(F:Nat):oD h F (I h)=eF h F:=by simp[oD,eF]
def UU(h:aI)(F:Nat):oD h F 0=List.replicate (F+1) 0:=by apply rT<;>simp[oD,aF]
def ad0{k:Nat}{l:af}(H:h[k]?=some l)(hp:l.aN=false):oD h F (k+1)=oD h F k:=by unfold oD;congr 1;funext g;exact jf H (by simp[rn,hp])
def Ww{k G:Nat}{l:af}(f:h[k]?=some l)(hp:l.aN)(H:l.gate=(G:Int)):
  oD h F (k+1)=(oD h F k).set G (dY (h.take k) G+1):=by
 apply rT
 .simp[oD]
 intro i j g;rw[Cd];simp only[oD,vA,BE];split
 .rename_i e;subst e;exact pK f (by simp[rn,hp,H])
 exact jf f (by simp[rn,H];intro _ e;omega)
def C6(o:aA)(k n:Nat):(aS o).set k [.int .i64 (n:Int)]=aS (o.set k n):=by simp[tK]
def HT(o:aA):I (aS o)=I o:=aG
def UZ(n m:Nat):aS (List.replicate n m)=List.replicate n [.int .i64 (m:Int)]:=aG
def ad6(n:Nat)(b:Bool):gE (List.replicate n b)=List.replicate n [.bool b]:=aG
def UG{k:Nat}{l:af}(f:h[k]?=some l)(hp:l.aN):dP h (k+1)= !dP h k:=by
 unfold dP;rw[pK f hp];cases H:(aF af.aN (h.take k)%2==0)with
 |true=>simp at H |-;omega
 |false=>simp at H |-;omega
def Up{k:Nat}{l:af}(H:h[k]?=some l)(hp:l.aN=false):dP h (k+1)=dP h k:=by unfold dP;rw[jf H hp]
def rB(h:aI)(i:Nat):Bool:=match h[i]? with|some l=>l.aN&&dP h i|none=>false
def qC(h:aI)(k:Nat):eo:=(List.range (I h)).map λi=>decide (i<k)&&rB h i
def mN(h:aI):eo:=(List.range (I h)).map (rB h)
def af2(h:aI):qC h 0=List.replicate (I h) false:=by apply rT<;>simp[qC]
def aj2(h:aI):qC h (I h)=mN h:=by unfold qC mN;apply yC;intro i H;simp[f_.1 H]
def aq4(h:aI)(k:Nat):I (qC h k)=I h:=by simp[qC]
def ai5{k:Nat}{l:af}(H:h[k]?=some l)(hp:l.aN=false):qC h (k+1)=qC h k:=by
 unfold qC;apply yC;intro i f;by_cases e:i=k
 .subst e;simp[rB,H,hp]
 have:(i<k+1)↔(i<k):=J;simp[this]
def aqw{k:Nat}{l:af}(f:h[k]?=some l)(hp:l.aN):qC h (k+1)=(qC h k).set k (dP h k):=by
 apply rT
 .simp[qC]
 intro i H g;rw[Cd];simp only[qC,vA,BE];split
 .rename_i e;subst e;simp[rB,f,hp]
 have:(i<k+1)↔(i<k):=J;simp[this]
def ig(h:aI)(g:Nat):Nat:=((List.range g).map (dY h)).sum
def uq(h:aI)(g:Nat):ig h (g+1)=ig h g+dY h g:=by simp[ig,j0]
def sA(h:aI)(F k:Nat):aA:=(List.range (F+1)).map λg=>if g<k then ig h g else 0
def CB(h:aI)(F:Nat):aA:=(List.range (F+1)).map (ig h)
def aji(h:aI)(F:Nat):sA h F 0=List.replicate (F+1) 0:=by apply rT<;>simp[sA]
def aij(h:aI)(F:Nat):sA h F (F+1)=CB h F:=by unfold sA CB;apply yC;intro i H;simp[f_.1 H]
def akR(h:aI)(F k:Nat):I (sA h F k)=F+1:=by simp[sA]
def ajS(h:aI)(F k:Nat):sA h F (k+1)=(sA h F k).set k (ig h k):=by
 apply rT
 .simp[sA]
 intro i H f;rw[Cd];simp only[sA,vA,BE];by_cases e:k=i
 .subst e;simp
 have:(i<k+1)↔(i<k):=J;simp only[this,aD e]
def Bt{G:Nat}(H:G<=F):(eF h F)[G]?=some (dY h G):=by simp[eF,nH (show G<F+1 by omega)]
def afc{G:Nat}(H:G<=F):(CB h F)[G]?=some (ig h G):=by simp[CB,nH (show G<F+1 by omega)]
def zl{a b:Nat}(H:a<=b):ig h a<=ig h b:=by
 induction H with
 |refl=>exact cH _
 |step _ f=>rw[uq];omega
def ah9(g:Nat)(a:af):((a.aN&&(decide (0<=a.gate)&&decide (a.gate<((g+1:Nat):Int))))=true)↔((a.aN&&(decide (0<=a.gate)&&decide (a.gate<(g:Int))))=true\/rn g a):=by
 simp only[rn,cq,fH,c6];constructor
 .rintro ⟨H,f,j⟩
  by_cases h:a.gate=(g:Int)
  .exact Or.inr ⟨H,h⟩
  exact Or.inl ⟨H,f,J⟩
 rintro(⟨H,f,j⟩|⟨H,f⟩)
 .exact⟨H,f,J⟩
 exact⟨H,J,J⟩
def aeW(g:Nat)(a:af):(a.aN&&(decide (0<=a.gate)&&decide (a.gate<(g:Int))))=true->rn g a->False:=by simp only[rn,cq,fH,c6];omega
def P7{p q r:af->Bool}(g:∀a,r a↔(p a\/q a))(H:∀a,p a->q a->False):∀h:aI,h.countP r=h.countP p+h.countP q:=by
 intro h
 induction h with
 |nil=>rfl
 |cons a h f=>rw[sO,sO,sO,f];have m:=g a;have j:=H a;cases E:p a<;>cases n:q a<;>cases u:r a<;>simp_all<;>omega
def abS(h:aI):∀g,ig h g=aF (λl=>l.aN&&(decide (0<=l.gate)&&decide (l.gate<((g:Nat):Int)))) h:=by
 intro g
 induction g with
 |zero=>symm;show h.countP _=0;rw[B4];intro a _;simp only[cq,fH];omega
 |succ g f=>rw[uq,f];exact(P7 (ah9 g) (aeW g) h).symm
def Ts(h:aI)(g:Nat):ig h g<=I h:=by rw[abS];exact ld _ _
def ei(h:aI)(l:af):Nat:=ig h l.gate.toNat+l.aK.toNat-1
def px(h:aI)(p i:Nat):Bool:=match h[i]? with|some l=>l.aN&&ei h l==p|none=>false
def r6(h:aI)(T k:Nat):eo:=(List.range T).map λp=>(List.range k).any (px h p)
def HB(h:aI)(k p:Nat):Nat:=((List.range k).find? (px h p)).getD 0
def oT(h:aI)(T k:Nat):aA:=(List.range T).map (HB h k)
def vC(h:aI)(i:Nat):Nat:=match h[i]? with|some l=>if l.aN then ei h l else 0|none=>0
def iQ(h:aI)(k:Nat):aA:=(List.range (I h)).map λi=>if i<k then vC h i else 0
def oV(h:aI)(i:Nat):Bool:=match h[i]? with
 |some l=> !l.aN||(decide (1<=l.aK)&&decide (l.aK<=(dY h l.gate.toNat:Int)))&& !(List.range i).any (px h (ei h l))
 |none=>true
def tX(h:aI):Bool:=(List.range (I h)).all (oV h)
def anC(h:aI)(T:Nat):r6 h T 0=List.replicate T false:=by apply rT<;>simp[r6]
def alQ(h:aI)(T:Nat):oT h T 0=List.replicate T 0:=by apply rT<;>simp[oT,HB]
def agO(h:aI):iQ h 0=List.replicate (I h) 0:=by apply rT<;>simp[iQ]
def W3(h:aI)(T k:Nat):I (oT h T k)=T:=by simp[oT]
def aqI(h:aI)(k:Nat):I (iQ h k)=I h:=by simp[iQ]
def ajF{k p:Nat}(H:p<T):(r6 h T k)[p]?=some ((List.range k).any (px h p)):=by simp[r6,H]
def ZV{k p:Nat}{l:af}(H:h[k]?=some l)(hp:l.aN=false):px h p k=false:=by simp[px,H,hp]
def ajo{k:Nat}{l:af}(H:h[k]?=some l)(hp:l.aN=false):r6 h T (k+1)=r6 h T k:=by unfold r6;congr 1;funext p;simp[j0,List.any_append,ZV H hp]
def aku{k:Nat}{l:af}(H:h[k]?=some l)(hp:l.aN=false):oT h T (k+1)=oT h T k:=by unfold oT;congr 1;funext p;simp[HB,j0,Su,ZV H hp]
def apd{k:Nat}{l:af}(H:h[k]?=some l)(hp:l.aN=false):iQ h (k+1)=iQ h k:=by
 unfold iQ;apply yC;intro i f;by_cases e:i=k
 .subst e;simp[vC,H,hp]
 have:(i<k+1)↔(i<k):=J;simp[this]
def E7{k p:Nat}{l:af}(H:h[k]?=some l)(hp:l.aN):px h p k=(ei h l==p):=by simp[px,H,hp]
def aoi{k:Nat}{l:af}(f:h[k]?=some l)(hp:l.aN):r6 h T (k+1)=(r6 h T k).set (ei h l) true:=by
 apply rT
 .simp[r6]
 intro i H g;rw[Cd];simp only[r6,vA,BE,j0,List.any_append,Nq,LJ,JK,E7 f hp];split
 .rename_i e;simp[e]
 rename_i e;simp[e]
def als{k:Nat}{l:af}(n:h[k]?=some l)(hp:l.aN)(f:(List.range k).any (px h (ei h l))=false):oT h T (k+1)=(oT h T k).set (ei h l) k:=by
 apply rT
 .simp[oT]
 intro i r q;rw[Cd];simp only[oT,vA,BE,HB,j0,Su];by_cases e:ei h l=i
 .have j:(List.range k).find? (px h i)=none:=by
   rw[<-e,zf];intro x m g;rw[xM]at f;exact f x m g
  have H:px h i k:=by rw[E7 n hp];simp[e]
  rw[j,aM e,Hb,H];rfl
 have H:px h i k=false:=by rw[E7 n hp];simp[e]
 rw[aD e,Hb,H];simp
def ahd{k:Nat}{l:af}(f:h[k]?=some l)(hp:l.aN):iQ h (k+1)=(iQ h k).set k (ei h l):=by
 apply rT
 .simp[iQ]
 intro i H g;rw[Cd];simp only[iQ,vA,BE];by_cases e:k=i
 .subst e;simp[vC,f,hp]
 have:(i<k+1)↔(i<k):=J;simp only[this,aD e]
def OL{k:Nat}(H:k<I h)(f:oV h k=false):tX h=false:=by unfold tX;rw[I9];exact⟨k,f_.2 H,by simp[f]⟩
def ajQ(f:∀i,i<I h->oV h i):tX h:=by unfold tX;rw[gL];exactλi H=>f i (f_.1 H)
abbrev EJ(id:Nat):Prop:=id=3328320128\/lG id=122
abbrev rC(F:Nat)(ls:aI)(c2 cP fv c5 fq:b_):dk:=[.p (.int .i64 (F:Int)),.p (jF ls),c2,cP,fv,c5,fq]
abbrev aa(id g n:Nat):b_:=.hsl id g 1 0 n
abbrev qN(F:Nat)(ls:aI):Prop:=∀l∈ls,l.aN->0<=l.gate/\l.gate<=(F:Int)
def EH(F:Nat)(h:aI)(g:Nat)(q:b_)(j:aB)(v:V)(A:aB):Prop:=
 v=kN (tX h)/\c8 EJ j A/\(tX h->∃g1 r u f,A 3328320128=(g,some (.var (rC F h (aa 7808128448 r (I h)) (aa 7809344128 f (ig h (F+1))) (aa 7808192448 u (I h)) q (aa 7808064448 g1 (F+1)))))/\
  A 7808064448=(g1,some (.arr 3 1 (aS (eF h F))))/\A 7808128448=(r,some (.arr 4 1 (gE (mN h))))/\A 7808192448=(u,some (.arr 3 1 (aS (iQ h (I h)))))/\
  A 7809344128=(f,some (.arr 3 1 (aS (oT h (ig h (F+1)) (I h))))))
def aoy{al:bP}(O:al.ok 3328320128)(ok:∀id,lG id=122->al.ok id){ky blk:aB}{g1 g4 F:Nat}{h:aI}{cP:b_}(hl:I h<=1000000)(hF:F<=1000000)(hg:qN F h)
  (y:n 0=.one (.bg 3328320128 g 0)) (M:n 6=.one (aa 7808832384 g4 (F+1))) (h7:n 7=aq (ig h (F+1)))
  (x:blk 3328320128=(g,some (.var (rC F h (aa 7808128448 r (I h)) cP (aa 7808192448 u (I h)) q (aa 7808064448 g1 (F+1))))))
  (B:blk 7808064448=(g1,some (.arr 3 1 (aS (eF h F))))) (bW:blk 7808128448=(r,some (.arr 4 1 (gE (mN h))))) (L:blk 7808192448=(u,some (.arr 3 1 (aS (iQ h 0)))))
  (bF:blk 7808832384=(g4,some (.arr 3 1 (aS (CB h F))))) (hk:c8 EJ ky blk):W S al RC (nk al [(2,none)] (EH F h g q ky)) n blk:=by
 have o1:=ok 7808064448 rfl;have o2:=ok 7808128448 rfl;have Y:=ok 7808192448 rfl;have o4:=ok 7808448192 rfl;have T:=ok 7808832384 rfl;have Q:=ok 7809344128 rfl;have X:=ok 7809408064 rfl;have o8:=ok 7809600192 rfl;have hT:=Ts h (F+1);have I0:ig h (F+1)*8<=140737488355328:=J;have dD:ig h (F+1)<=140737488355328:=J;simp only[go_sem,RC,y,h7,x,I0,dD,O,o1,o2,Y,o4,T,Q,X,o8,ae,ao];refine cD (λk n A=>n 0=.one (.bg 3328320128 g 0)/\n 6=.one (aa 7808832384 g4 (F+1))/\n 10=.one (aa 7809408064 ((blk 7809408064).1+1) (ig h (F+1)))/\n 114=.one (.p (jF h))/\n 115=aq (I h)/\n 116=aq k/\
  A 3328320128=(g,some (.var (rC F h (aa 7808128448 r (I h)) (aa 7809344128 ((blk 7809344128).1+1) (ig h (F+1))) (aa 7808192448 u (I h)) q (aa 7808064448 g1 (F+1)))))/\
  A 7808064448=(g1,some (.arr 3 1 (aS (eF h F))))/\A 7808128448=(r,some (.arr 4 1 (gE (mN h))))/\A 7808192448=(u,some (.arr 3 1 (aS (iQ h k))))/\
  A 7808832384=(g4,some (.arr 3 1 (aS (CB h F))))/\A 7809344128=((blk 7809344128).1+1,some (.arr 3 1 (aS (oT h (ig h (F+1)) k))))/\A 7809408064=((blk 7809408064).1+1,some (.arr 4 1 (gE (r6 h (ig h (F+1)) k))))/\
  (∀i,i<k->oV h i)/\c8 EJ ky A) 0 (I h) (bC _) ?_ ?_
 .simp only[go_sem,y,M,B,bW,L,bF,ae,ao,alQ,anC,UZ,ad6];refine⟨rfl,rfl,λi N=>absurd N (l_ i),?_⟩;repeat(first|exact hk|refine c8.cQ ?_ (by first|exact Or.inl rfl|exact Or.inr rfl) _)
 rintro k n A hk ⟨y,M,cb,H5,Fi,AU,x,B,bW,L,bF,bA,bT,ay,Z⟩
 by_cases z:k<I h
 .obtain⟨l,D⟩:=bq z;have m:=iF D;have aL:((k:Int)<(I h:Int)):=J;have w1:=bJ (n:=k) J;cases hp:(l.kind==1)with
  |false=>
   have f:l.aN=false:=hp;have mG:(l.kind !=1):=by simp[bne,hp]
   have nT:oV h k:=by simp[oV,D,f]
   simp only[go_sem,B9,y,M,cb,H5,Fi,AU,x,B,bW,bF,L,bA,bT,m,cW,af.ps,aL,hp,mG,w1,O,o1,o2,Y,o4,T,Q,X,o8,ae,ao];refine⟨z,?_,?_,?_,?_,?_⟩
   .rw[apd D f]
   .rw[aku D f]
   .rw[ajo D f]
   .intro i m;rcases jG.1 m with N|rfl
    .exact ay i N
    exact nT
   repeat(first|exact Z|refine c8.cQ ?_ (by first|exact Or.inl rfl|exact Or.inr rfl) _)
  |true=>
   have f:l.aN:=hp;have mG:(l.kind !=1)=false:=by simp[bne,hp]
   obtain⟨zy,an⟩:=hg l (bY D) f;obtain⟨G,hG⟩:=lM zy;have zk:G<=F:=J;have u4:G<F+1:=J;have kC:=fC (Bt (h:=h) zk);have vc:=fC (afc (h:=h) zk);have j:l.gate.toNat=G:=J;cases r1:decide (l.aK<1)with
   |true=>have tv:l.aK<1:=mX r1;have ab:¬1<=l.aK:=J;have v:=OL z (show oV h k=false by simp[oV,D,f,ab]);simp only[go_sem,B9,y,M,cb,H5,Fi,AU,x,B,bW,bF,L,bA,bT,m,cW,af.ps,aL,hp,mG,w1,tv,O,o1,o2,Y,o4,T,Q,X,o8,ae,ao];refine⟨aw,?_⟩;unfold EH;refine⟨by rw[v],?_,λN=>by rw[v]at N;cases N⟩;repeat(first|exact Z|refine c8.cQ ?_ (by first|exact Or.inl rfl|exact Or.inr rfl) _)
   |false=>
    have tv:¬l.aK<1:=fJ r1;obtain⟨R,hR⟩:=lM (show 0<=l.aK by omega);have E:¬((R:Int)<1):=J;cases r2:decide ((dY h G:Int)<(R:Int))with
    |true=>
     have ss:(dY h G:Int)<(R:Int):=mX r2;have ag:¬l.aK<=(dY h l.gate.toNat:Int):=by rw[j];omega
     have v:=OL z (show oV h k=false by simp[oV,D,f,ag]);simp only[go_sem,B9,y,M,cb,H5,Fi,AU,x,B,bW,bF,L,bA,bT,m,cW,af.ps,aL,hp,mG,w1,hR,hG,E,ss,kC,u4,O,o1,o2,Y,o4,T,Q,X,o8,ae,ao];refine⟨aw,?_⟩;unfold EH;refine⟨by rw[v],?_,λN=>by rw[v]at N;cases N⟩;repeat(first|exact Z|refine c8.cQ ?_ (by first|exact Or.inl rfl|exact Or.inr rfl) _)
    |false=>
     have ss:¬(dY h G:Int)<(R:Int):=fJ r2;have am:=Ts h G;have ad:=zl (h:=h) (show G+1<=F+1 by omega);have xW:=uq h G;have H:ei h l<ig h (F+1):=by unfold ei;rw[j];omega
     have bd:ig h G+R-1=ei h l:=by unfold ei;rw[j];omega
     have dt:dY h G<=I h:=ld _ _;have w2:=oo (a:=ig h G) (b:=R) J;have w3:=wO (a:=ig h G+R) J J;rw[bd]at w3;have Di:=qa (ajF (h:=h) (k:=k) H);cases hu:(List.range k).any (px h (ei h l))with
     |true=>rw[hu]at Di;have v:=OL z (show oV h k=false by simp[oV,D,f,hu]);simp only[go_sem,B9,y,M,cb,H5,Fi,AU,x,B,bW,bF,L,bA,bT,m,cW,af.ps,aL,hp,mG,w1,hR,hG,E,ss,kC,vc,u4,w2,w3,Di,H,O,o1,o2,Y,o4,T,Q,X,o8,ae,ao];refine⟨aw,aw,?_⟩;unfold EH;refine⟨by rw[v],?_,λN=>by rw[v]at N;cases N⟩;repeat(first|exact Z|refine c8.cQ ?_ (by first|exact Or.inl rfl|exact Or.inr rfl) _)
     |false=>
      rw[hu]at Di;have nT:oV h k:=by
       have e1:1<=l.aK:=J;have e2:l.aK<=(dY h l.gate.toNat:Int):=by rw[j];omega
       simp[oV,D,e1,e2,hu]
      obtain⟨a0,tZ⟩:=bq (show ei h l<I (oT h (ig h (F+1)) k) by rw[W3];exact H);obtain⟨p0,uh⟩:=bq (show k<I (iQ h k) by rw[aqI];exact z);have tZ:=fC tZ;have uh:=fC uh;have s1:=Dj (r6 h (ig h (F+1)) k) (ei h l) true;rw[<-aoi D f]at s1;have s2:=C6 (oT h (ig h (F+1)) k) (ei h l) k;rw[<-als D f hu]at s2;have B3:=C6 (iQ h k) k (ei h l);rw[<-ahd D f]at B3;simp only[go_sem,B9,y,M,cb,H5,Fi,AU,x,B,bW,bF,L,bA,bT,m,cW,af.ps,aL,z,hp,mG,w1,hR,hG,E,ss,kC,vc,u4,w2,w3,Di,H,tZ,uh,s1,s2,B3,O,o1,o2,Y,o4,T,Q,X,o8,ae,ao];refine⟨aw,aw,aw,?_,?_⟩
      .intro i m;rcases jG.1 m with N|rfl
       .exact ay i N
       exact nT
      repeat(first|exact Z|refine c8.cQ ?_ (by first|exact Or.inl rfl|exact Or.inr rfl) _)
 have:k=I h:=J;subst this;have hr:=ajQ ay;simp only[go_sem,B9,acg,Fi,AU,dF,ae,ao];exact⟨by rw[hr],Z,λ_=>⟨g1,r,u,(blk 7809344128).1+1,x,B,bW,L,bA⟩⟩
def ame{al:bP}(O:al.ok 3328320128)(ok:∀id,lG id=122->al.ok id){v blk:aB}{g1 F:Nat}{h:aI}{cP:b_}(hl:I h<=1000000)(hF:F<=1000000)(hg:qN F h)
  (H:n 0=.one (.bg 3328320128 g 0))
  (B:blk 3328320128=(g,some (.var (rC F h (aa 7808128448 r (I h)) cP (aa 7808192448 u (I h)) q (aa 7808064448 g1 (F+1))))))
  (m:blk 7808064448=(g1,some (.arr 3 1 (aS (eF h F))))) (bW:blk 7808128448=(r,some (.arr 4 1 (gE (mN h))))) (L:blk 7808192448=(u,some (.arr 3 1 (aS (iQ h 0)))))
  (D:c8 EJ v blk):W S al NN (nk al [(2,none)] (EH F h g q v)) n blk:=by
 have R:=ok 7808064448 rfl;have Q:=ok 7808128448 rfl;have X:=ok 7808192448 rfl;have o4:=ok 7808448192 rfl;have E:=ok 7808832384 rfl;have z:=ok 7809344128 rfl;have N:=ok 7809408064 rfl;have T:=ok 7809600192 rfl;have I0:(F+1)*8<=140737488355328:=J;have wF:=bJ (n:=F) J;simp only[go_sem,NN,H,B,wF,I0,O,R,Q,X,o4,E,z,N,T,ae,ao];refine cD (λk n A=>n 0=.one (.bg 3328320128 g 0)/\n 6=.one (aa 7808832384 ((blk 7808832384).1+1) (F+1))/\n 7=aq (ig h k)/\n 88=.one (aa 7808064448 g1 (F+1))/\n 89=aq ((F+1:Nat):Int)/\n 90=aq k/\
  A 3328320128=(g,some (.var (rC F h (aa 7808128448 r (I h)) cP (aa 7808192448 u (I h)) q (aa 7808064448 g1 (F+1)))))/\
  A 7808064448=(g1,some (.arr 3 1 (aS (eF h F))))/\A 7808128448=(r,some (.arr 4 1 (gE (mN h))))/\A 7808192448=(u,some (.arr 3 1 (aS (iQ h 0))))/\
  A 7808832384=((blk 7808832384).1+1,some (.arr 3 1 (aS (sA h F k))))/\c8 EJ v A) 0 (F+1) (bC _) ?_ ?_
 .simp only[go_sem,H,B,m,bW,L,ae,ao,aji,UZ];refine⟨rfl,rfl,rfl,?_⟩;repeat(first|exact D|refine c8.cQ ?_ (by first|exact Or.inl rfl|exact Or.inr rfl) _)
 rintro k n A D ⟨H,h6,M,x,f,j,B,m,bW,L,bF,Y⟩
 by_cases au:k<F+1
 .have aL:((k:Int)<((F+1:Nat):Int)):=J;have w1:=bJ (n:=k) J;have hc:=fC (Bt (h:=h) (show k<=F by omega));obtain⟨a0,y⟩:=bq (show k<I (sA h F k) by rw[akR];exact au);have y:=fC y;have Z:=C6 (sA h F k) k (ig h k);rw[<-ajS]at Z;have aa:=uq h k;have ab:=Ts h (k+1);have w2:=oo (a:=ig h k) (b:=dY h k) J;rw[<-aa]at w2;simp only[go_sem,Om,H,h6,M,x,f,j,B,m,bW,L,bF,au,aL,hc,y,Z,w1,w2,O,R,Q,X,o4,E,z,N,T,ae,ao];repeat(first|exact Y|refine c8.cQ ?_ (by first|exact Or.inl rfl|exact Or.inr rfl) _)
 have:k=F+1:=J;subst this;simp only[go_sem,Om,f,j,dF,ae,ao];exact aoy O ok hl hF hg H h6 M B m bW L (by rw[bF,aij]) Y
def aqp{al:bP}(O:al.ok 3328320128)(ok:∀id,lG id=122->al.ok id){blk:aB}{F:Nat}{h:aI}{cP fv fq:b_}(hl:I h<=1000000)(hF:F<=1000000)(hg:qN F h)
  (B:blk 3328320128=(g,some (.var (rC F h v cP fv q fq)))):∃ad A,ia S 122 [.one (.bg 3328320128 g 0)] al blk ad A/\EH F h g q blk ad A:=by
 have N:=ok 7808064448 rfl;have M:=ok 7808128448 rfl;have R:=ok 7808192448 rfl;have X:=ok 7808448192 rfl;have E:=ok 7808832384 rfl;have r:=ok 7809344128 rfl;have L:=ok 7809408064 rfl;have Q:=ok 7809600192 rfl;refine mU alS (gU rfl) ?_;have I0:(F+1)*8<=140737488355328:=J;have z:I h*8<=140737488355328:=J;have fS:I h<=140737488355328:=J;have wF:=bJ (n:=F) J;simp only[go_sem,ZA,B,wF,I0,z,fS,O,N,M,R,X,E,r,L,Q,ae,ao];refine cD (λk n A=>n 0=.one (.bg 3328320128 g 0)/\n 3=kN (dP h k)/\n 48=.one (.p (jF h))/\n 49=aq (I h)/\n 50=aq k/\
  A 3328320128=(g,some (.var (rC F h (aa 7808128448 ((blk 7808128448).1+1) (I h)) cP (aa 7808192448 ((blk 7808192448).1+1) (I h)) q (aa 7808064448 ((blk 7808064448).1+1) (F+1)))))/\
  A 7808064448=((blk 7808064448).1+1,some (.arr 3 1 (aS (oD h F k))))/\A 7808128448=((blk 7808128448).1+1,some (.arr 4 1 (gE (qC h k))))/\A 7808192448=((blk 7808192448).1+1,some (.arr 3 1 (aS (iQ h 0))))/\
  c8 EJ blk A) 0 (I h) (bC _) ?_ ?_
 .simp only[go_sem,B,ae,ao,UU,af2,agO,UZ,ad6];refine⟨rfl,rfl,rfl,rfl,?_⟩;repeat(first|exact(c8.refl _ _)|refine c8.cQ ?_ (by first|exact Or.inl rfl|exact Or.inr rfl) _)
 rintro k n A hk ⟨u,h3,Ie,j,H,B,x,bW,Y,T⟩
 by_cases m:k<I h
 .obtain⟨l,D⟩:=bq m;have hi:=iF D;have aL:((k:Int)<(I h:Int)):=J;have Z:=bJ (n:=k) J;cases hp:(l.kind==1)with
  |false=>
   have f:l.aN=false:=hp;simp only[go_sem,J9,u,h3,Ie,j,H,B,x,bW,Y,hi,cW,af.ps,aL,hp,Z,O,N,M,R,X,E,r,L,Q,ae,ao];refine⟨m,?_,?_,?_,?_⟩
   .rw[Up D f]
   .rw[ad0 D f]
   .rw[ai5 D f]
   repeat(first|exact T|refine c8.cQ ?_ (by first|exact Or.inl rfl|exact Or.inr rfl) _)
  |true=>have f:l.aN:=hp;obtain⟨zy,ab⟩:=hg l (bY D) f;obtain⟨G,hG⟩:=lM zy;have zk:G<=F:=J;have u4:G<F+1:=J;have kC:=fC (Vu (h:=h) (k:=k) zk);have dt:dY (h.take k) G<=k:=uv _ _ _;have w2:=bJ (n:=dY (h.take k) G) J;have s1:=C6 (oD h F k) G (dY (h.take k) G+1);rw[<-Ww D f hG]at s1;obtain⟨b0,y⟩:=bq (show k<I (qC h k) by rw[aq4];exact m);have y:=qa y;have s2:=Dj (qC h k) k (dP h k);rw[<-aqw D f]at s2;have hd:=UG D f;simp only[go_sem,J9,u,h3,Ie,j,H,B,x,bW,Y,hi,cW,af.ps,aL,m,hp,Z,hG,kC,u4,w2,s1,y,s2,hd,O,N,M,R,X,E,r,L,Q,ae,ao];refine⟨aw,?_⟩;repeat(first|exact T|refine c8.cQ ?_ (by first|exact Or.inl rfl|exact Or.inr rfl) _)
 have:k=I h:=J;subst this;simp only[go_sem,J9,j,H,dF,ae,ao];exact ame O ok hl hF hg u B (by rw[x,TD]) (by rw[bW,aj2]) Y T
def nO(h:aI)(id:Int)(o:Bool)(j:Nat):Bool:=match h[j]? with|some m=>m.aJ&&(m.id==id&&m.over==o)|none=>false
def gn(h:aI)(k:Nat)(id:Int)(o:Bool):my:=(List.range k).find? (nO h id o)
def vn:my->Int
 |some j=>j
 |none=> -1
def fg(h:aI):Nat->cS
 |0=>[]
 |k+1=>match h[k]? with
  |some l=>if l.aJ&& !(fg h k).contains l.id then fg h k++[l.id]else fg h k
  |none=>fg h k
def nP(h:aI)(k:Nat)(id:Int):c_:=[.int .i64 (vn (gn h k id false)),.int .i64 (vn (gn h k id true))]
def mR(h:aI)(k:Nat):cL:=(fg h k).map λid=>(PV.int .i64 id,nP h k id)
def yn(h:aI)(j:Nat):Int:=((h[j]?).map af.sign).getD 0
def kx(h:aI)(n:Nat)(k:Nat):Bool:=match h[k]? with
 |some l=> !l.aJ||((decide (1<=l.id)&&decide (l.id<=(n:Int)))&&((gn h k l.id l.over).isNone&&(match gn h k l.id (!l.over)with|some j=>yn h j==l.sign|none=>true)))
 |none=>true
def lA(h:aI):Bool:=(aF af.aJ h%2==0)&&(List.range (I h)).all (kx h (aF af.aJ h/2))&&(I (fg h (I h))==aF af.aJ h/2)
def HU{k:Nat}{l:af}(f:h[k]?=some l)(H:l.aJ)(id:Int)(o:Bool):nO h id o k=(l.id==id&&l.over==o):=by simp[nO,f,H]
def Zt{k:Nat}{l:af}(f:h[k]?=some l)(H:l.aJ=false)(id:Int)(o:Bool):nO h id o k=false:=by simp[nO,f,H]
def Kk(h:aI)(k:Nat)(id:Int)(o:Bool):gn h (k+1) id o=(gn h k id o).or (if nO h id o k then some k else none):=by simp only[gn,j0,Su,Hb,List.find?_nil];cases nO h id o k<;>rfl
def BM{k:Nat}{id:Int}{o:Bool}(H:gn h k id o=some j):j<k/\nO h id o j:=
 ⟨f_.1 (Er H),EG H⟩
def xx{id:Int}{o:Bool}(H:nO h id o j):∃m,h[j]?=some m/\m.aJ/\m.id=id/\m.over=o:=by
 unfold nO at H;split at H
 .rename_i m f;simp only[cq,c6]at H;exact⟨m,f,H.1,H.2.1,H.2.2⟩
 cases H
def HX{k:Nat}{id:Int}{o:Bool}(f:gn h k id o=none)(H:j<k):nO h id o j=false:=by
 have:=zf.1 f j (f_.2 H)
 simpa using this
def adA{k:Nat}{l:af}(f:h[k]?=some l)(H:l.aJ=false):fg h (k+1)=fg h k:=by simp[fg,f,H]
def VD{k:Nat}{l:af}(g:h[k]?=some l)(f:l.aJ)(H:l.id∉fg h k):fg h (k+1)=fg h k++[l.id]:=by simp[fg,g,f,H]
def aar{k:Nat}{l:af}(f:h[k]?=some l)(H:l.id∈fg h k):fg h (k+1)=fg h k:=by simp[fg,f,H]
def aqx{k:Nat}{l:af}(f:h[k]?=some l)(H:l.aJ=false):mR h (k+1)=mR h k:=by unfold mR nP;rw[adA f H];simp[Kk,Zt f H]
def agc{id:Int}:∀(k:Nat),k<=I h->(id∈fg h k↔ ∃j o,j<k/\nO h id o j):=by
 intro k
 induction k with
 |zero=>intro _;simp[fg]
 |succ k g=>
  intro u;obtain⟨l,hl⟩:=bq (show k<I h by omega);have g:=g J;have O:(∃j o,j<k/\nO h id o j)->∃j o,j<k+1/\nO h id o j:=λ⟨j,o,m,H⟩=>⟨j,o,J,H⟩;cases f:l.aJ with
  |false=>
   rw[adA hl f,g];refine⟨O,?_⟩;rintro⟨j,o,m,H⟩
   rcases jG.1 m with r|rfl
   .exact⟨j,o,r,H⟩
   rw[Zt hl f]at H;cases H
  |true=>
   have n:id∈fg h (k+1)↔(id∈fg h k\/id=l.id):=by
    by_cases q:l.id∈fg h k
    .rw[aar hl q];exact⟨Or.inl,λr=>r.elim et (λe=>e▸q)⟩
    rw[VD hl f q];simp
   rw[n,g];constructor
   .rintro (r|rfl)
    .exact O r
    exact⟨k,l.over,J,by rw[HU hl f];simp⟩
   rintro⟨j,o,m,H⟩
   rcases jG.1 m with r|rfl
   .exact Or.inl ⟨j,o,r,H⟩
   rw[HU hl f]at H;simp only[cq,c6]at H;exact Or.inr H.1.symm
where et {p:Prop} (h:p):p:=h
def GQ{id:Int}{k:Nat}(H:k<=I h):id∈fg h k↔ ∃j o,j<k/\nO h id o j:=agc k H
def RE(h:aI):∀k,(fg h k).Nodup:=by
 intro k
 induction k with
 |zero=>simp[fg]
 |succ k f=>
  unfold fg;split
  .split
   .rename_i j;simp only[cq,hY,GD,decide_eq_false_iff_not]at j;rw[xh];refine⟨f,aG,?_⟩;intro a g b H;simp only[pA]at H;subst H;rintro rfl
    exact j.2 g
   exact f
  exact f
def ahG{k:Nat}(H:k<=I h){id:Int}(n:id∉fg h k)(o:Bool):gn h k id o=none:=by
 cases f:gn h k id o with
 |none=>rfl
 |some j=>obtain⟨m,g⟩:=BM f;exact absurd ((GQ H).2 ⟨j,o,m,g⟩) n
def XI{k:Nat}(u:k<=I h){id:Int}(x:id∈fg h k)(o:Bool)(q:gn h k id o=none):∃j m,gn h k id (!o)=some j/\h[j]?=some m/\j<k:=by
 obtain⟨j,O,g,H⟩:=(GQ u).1 x;by_cases e:O=o
 .subst e;rw[HX q g]at H;cases H
 have e:O= !o:=by cases o<;>cases O<;>simp_all
 subst e;cases f:gn h k id (!o)with
 |none=>rw[HX f g]at H;cases H
 |some i=>obtain⟨n,v⟩:=BM f;obtain⟨m,r,_⟩:=xx v;exact⟨i,m,rfl,r,n⟩
def V_{k:Nat}{l:af}(g:h[k]?=some l)(f:l.aJ){id:Int}(H:¬l.id=id)(o:Bool):gn h (k+1) id o=gn h k id o:=by rw[Kk,HU g f];simp[H]
def UX{k:Nat}{l:af}(g:h[k]?=some l)(f:l.aJ)(H:gn h k l.id l.over=none):gn h (k+1) l.id l.over=some k:=by rw[Kk,HU g f,H];simp
def NH{k:Nat}{l:af}(f:h[k]?=some l)(H:l.aJ):gn h (k+1) l.id (!l.over)=gn h k l.id (!l.over):=by rw[Kk,HU f H];cases l.over<;>simp
def Z9{k:Nat}{l:af}(g:h[k]?=some l)(f:l.aJ){id:Int}(H:¬l.id=id):nP h (k+1) id=nP h k id:=by unfold nP;rw[V_ g f H,V_ g f H]
def agh{k:Nat}{l:af}(j:h[k]?=some l)(g:l.aJ)(f:l.id∉fg h k):mR h (k+1)=mR h k++[(.int .i64 l.id,nP h (k+1) l.id)]:=by unfold mR;rw[VD j g f,q_];congr 1;apply yC;intro id H;rw[Z9 j g (by rintro rfl;exact f H)]
def af6{k:Nat}{l:af}(j:h[k]?=some l)(f:l.aJ)(g:l.id∈fg h k):mR h (k+1)=(mR h k).set ((fg h k).idxOf l.id) (.int .i64 l.id,nP h (k+1) l.id):=by
 unfold mR;rw[aar j g];apply rT
 .simp
 intro i H m;rw[Cd];simp only[cT]at H;by_cases e:(fg h k).idxOf l.id=i
 .subst e;simp only[vA,aM,List.getElem_idxOf]
 rw[aD e];simp only[vA];rw[Z9 j f];intro E;apply e;rw[E];exact(RE h k).idxOf_getElem i H
def abH(h:aI)(k:Nat)(q:Int):uN (.int .i64 q) (mR h k) 0=some (if q∈fg h k then some ((fg h k).idxOf q,nP h k q)else none):=by unfold mR;rw[aeL];simp
def CD{k:Nat}(H:k<I h)(f:kx h (aF af.aJ h/2) k=false):lA h=false:=by have:(List.range (I h)).all (kx h (aF af.aJ h/2))=false:=I9.2 ⟨k,f_.2 H,by simp[f]⟩;simp[lA,this]
def aae(H:aF af.aJ h%2=0)(g:∀i,i<I h->kx h (aF af.aJ h/2) i):lA h=(I (fg h (I h))==aF af.aJ h/2):=by have:(List.range (I h)).all (kx h (aF af.aJ h/2)):=gL.2 λi f=>g i (f_.1 f);simp[lA,this,H]
abbrev adj(id:Nat):Prop:=id=3328320128\/lG id=123
def At(F:Nat)(h:aI)(g:Nat)(v cP fv fq:b_)(f:aB)(j:V)(A:aB):Prop:=j=kN (lA h)/\c8 adj f A/\(lA h->∃g1,A 3328320128=(g,some (.var (rC F h v cP fv (.km 7872256064 g1) fq)))/\A 7872256064=(g1,some (.map true (mR h (I h)))))
def DA(j:Nat):decide ((0:Int)<=(j:Int))=true:=sN J
def xJ:IntKind.i64.wrap 0=0:=U
def yj:IntKind.i64.wrap 1=1:=U
def Ec:((-1:Int)≥0)=False:=aG
def D_:((0:Int)<= -1)=False:=aG
def alo{al:bP}(O:al.ok 3328320128)(ok:∀id,lG id=123->al.ok id){blk:aB}{F:Nat}{h:aI}{cP fv fq:b_}(hl:I h<=1000000)
  (B:blk 3328320128=(g,some (.var (rC F h v cP fv q fq)))):∃ar ak,ia S 123 [.one (.bg 3328320128 g 0)] al blk ar ak/\At F h g v cP fv fq blk ar ak:=by
 have L:=ok 7872256064 rfl;have A:=ok 7872448192 rfl;have y:=ok 7872704640 rfl;refine mU alu (gU rfl) ?_;have pc:=Tv F h hl;have dt:aF af.aJ h<=I h:=ld _ _;cases he:(((aF af.aJ h%2:Nat):Int)!=0)with
 |true=>
  have D:lA h=false:=by
   have:(aF af.aJ h%2==0)=false:=by simp at he |-;omega
   simp[lA,this]
  simp only[go_sem,Ov,B,yU,FX pc,hD,de,he,O,L,A,y,ae,ao];exact⟨by rw[D],c8.refl _ _,λx=>by rw[D]at x;cases x⟩
 |false=>
  have ab:aF af.aJ h%2=0:=by simp at he;omega
  simp only[go_sem,Ov,B,yU,FX pc,hD,de,he,O,L,A,y,ae,ao];refine cD (λk n ak=>n 0=.one (.bg 3328320128 g 0)/\n 3=aq (aF af.aJ h)/\n 25=.one (.p (jF h))/\n 26=aq (I h)/\n 27=aq k/\
   ak 3328320128=(g,some (.var (rC F h v cP fv (.km 7872256064 ((blk 7872256064).1+1)) fq)))/\ak 7872256064=((blk 7872256064).1+1,some (.map true (mR h k)))/\
   (∀i,i<k->kx h (aF af.aJ h/2) i)/\c8 adj blk ak) 0 (I h) (bC _) ?_ ?_
  .simp only[go_sem,B,ae,ao];refine⟨rfl,rfl,λi x=>absurd x (l_ i),?_⟩;repeat(first|exact(c8.refl _ _)|refine c8.cQ ?_ (by first|exact Or.inl rfl|exact Or.inr rfl) _)
  rintro k n ak hk ⟨Z,T,qP,X,uY,B,Q,ay,R⟩
  have wq:IntKind.i64.wrap ((aF af.aJ h/2:Nat):Int)=((aF af.aJ h/2:Nat):Int):=wrap_small J;by_cases Y:k<I h
  .obtain⟨l,z⟩:=bq Y;have f:=iF z;have aL:((k:Int)<(I h:Int)):=J;have w1:=bJ (n:=k) J;cases hc:(l.kind==2)with
   |false=>
    have E:l.aJ=false:=hc;have hp:(l.kind !=2):=by simp[bne,hc]
    have nT:kx h (aF af.aJ h/2) k:=by simp[kx,z,E]
    simp only[go_sem,sC,Z,T,qP,X,uY,B,Q,f,cW,af.ps,aL,hp,w1,O,L,A,y,ae,ao];refine⟨Y,?_,?_,?_⟩
    .rw[aqx z E]
    .intro i f;rcases jG.1 f with x|rfl
     .exact ay i x
     exact nT
    repeat(first|exact R|refine c8.cQ ?_ (by first|exact Or.inl rfl|exact Or.inr rfl) _)
   |true=>
    have E:l.aJ:=hc;have hp:(l.kind !=2)=false:=by simp[bne,hc]
    cases r1:decide (l.id<1)with
    |true=>have tv:l.id<1:=mX r1;have ad:¬1<=l.id:=J;have D:=CD Y (show kx h (aF af.aJ h/2) k=false by simp[kx,z,E,ad]);simp only[go_sem,sC,Z,T,qP,X,uY,B,Q,f,cW,af.ps,aL,hp,w1,tv,O,L,A,y,ae,ao];unfold At;refine⟨by rw[D],?_,λx=>by rw[D]at x;cases x⟩;repeat(first|exact R|refine c8.cQ ?_ (by first|exact Or.inl rfl|exact Or.inr rfl) _)
    |false=>
     have tv:¬l.id<1:=fJ r1;have ag:1<=l.id:=J;cases r2:decide (((aF af.aJ h/2:Nat):Int)<l.id)with
     |true=>have ss:((aF af.aJ h/2:Nat):Int)<l.id:=mX r2;have an:¬l.id<=((aF af.aJ h/2:Nat):Int):=J;have D:=CD Y (show kx h (aF af.aJ h/2) k=false by simp only[kx,z,E,an];simp);simp only[go_sem,sC,Z,T,qP,X,uY,B,Q,f,cW,af.ps,aL,hp,w1,tv,ss,dZ,de,wq,O,L,A,y,ae,ao];unfold At;refine⟨by rw[D],?_,λx=>by rw[D]at x;cases x⟩;repeat(first|exact R|refine c8.cQ ?_ (by first|exact Or.inl rfl|exact Or.inr rfl) _)
     |false=>
      have ss:¬((aF af.aJ h/2:Nat):Int)<l.id:=fJ r2;have am:l.id<=((aF af.aJ h/2:Nat):Int):=J;have u:=abH h k l.id;have oy:kx h (aF af.aJ h/2) k=((gn h k l.id l.over).isNone&&(match gn h k l.id (!l.over)with|some j=>yn h j==l.sign|none=>true)):=by simp only[kx,z,E,ag,am,decide_true];rfl
      by_cases hm:l.id∈fg h k
      .rw[aM hm]at u;obtain⟨e0,ap⟩:=bq (show(fg h k).idxOf l.id<I (mR h k) by simp[mR];exact List.idxOf_lt_length_of_mem hm);have CZ:=af6 z E hm;have Is:nP h k l.id=[.int .i64 (vn (gn h k l.id false)),.int .i64 (vn (gn h k l.id true))]:=rfl;rw[Is]at u;cases H:l.over with
       |true=>
        cases r:gn h k l.id true with
        |some j=>have D:=CD Y (show kx h (aF af.aJ h/2) k=false by rw[oy,H,r];rfl);rw[r]at u;simp only[vn]at u;simp only[go_sem,sC,Z,T,qP,X,uY,B,Q,f,cW,af.ps,aL,hp,w1,tv,ss,dZ,de,wq,u,H,DA,xJ,yj,lh,lf,jd,pM,sI,x8,Int.reduceNeg,Int.reduceSub,O,L,A,y,ae,ao];refine⟨aw,aw,?_⟩;unfold At;refine⟨by rw[D],?_,λx=>by rw[D]at x;cases x⟩;repeat(first|exact R|refine c8.cQ ?_ (by first|exact Or.inl rfl|exact Or.inr rfl) _)
        |none=>
         obtain⟨j,m,N,CU,IF⟩:=XI hk hm true r;have N:gn h k l.id false=some j:=N;have uf:=iF CU;have I4:yn h j=m.sign:=by simp[yn,CU]
         rw[r,N]at u;simp only[vn]at u;cases aa:(m.sign==l.sign)with
         |false=>
          have gy:(m.sign !=l.sign):=by simp[bne,aa]
          have D:=CD Y (show kx h (aF af.aJ h/2) k=false by rw[oy,H,r];simp only[By,N,I4,aa];rfl);simp only[go_sem,sC,Z,T,qP,X,uY,B,Q,f,cW,af.ps,aL,hp,w1,tv,ss,dZ,de,wq,u,H,DA,Ec,D_,uf,gy,xJ,yj,lh,lf,jd,pM,sI,x8,Int.reduceNeg,Int.reduceSub,O,L,A,y,ae,ao];refine⟨aw,aw,?_⟩;unfold At;refine⟨by rw[D],?_,λx=>by rw[D]at x;cases x⟩;repeat(first|exact R|refine c8.cQ ?_ (by first|exact Or.inl rfl|exact Or.inr rfl) _)
         |true=>
          have gy:(m.sign !=l.sign)=false:=by simp[bne,aa]
          have nT:kx h (aF af.aJ h/2) k:=by rw[oy,H,r];simp only[By,N,I4,aa];rfl
          have ox:=UX z E (show gn h k l.id l.over=none by rw[H];exact r);have M:=NH z E;rw[H]at ox M;rw[show gn h k l.id (!true)=some j from N]at M;have SO:nP h (k+1) l.id=[.int .i64 (j:Int),.int .i64 (k:Int)]:=by simp only[nP];rw[ox,show gn h (k+1) l.id false=some j from M];rfl
          rw[SO]at CZ;simp only[go_sem,sC,Z,T,qP,X,uY,B,Q,f,cW,af.ps,aL,hp,w1,tv,ss,dZ,de,wq,u,H,DA,Ec,D_,uf,gy,xJ,yj,lh,lf,jd,pM,sI,x8,Int.reduceNeg,Int.reduceSub,O,L,A,y,ae,ao];refine⟨aw,aw,aw,?_⟩;refine⟨Y,?_,?_,?_⟩
          .rw[CZ]
          .intro i f;rcases jG.1 f with x|rfl
           .exact ay i x
           exact nT
          repeat(first|exact R|refine c8.cQ ?_ (by first|exact Or.inl rfl|exact Or.inr rfl) _)
       |false=>
        cases r:gn h k l.id false with
        |some j=>have D:=CD Y (show kx h (aF af.aJ h/2) k=false by rw[oy,H,r];rfl);rw[r]at u;simp only[vn]at u;simp only[go_sem,sC,Z,T,qP,X,uY,B,Q,f,cW,af.ps,aL,hp,w1,tv,ss,dZ,de,wq,u,H,DA,xJ,yj,lh,lf,jd,pM,sI,x8,Int.reduceNeg,Int.reduceSub,O,L,A,y,ae,ao];refine⟨aw,aw,?_⟩;unfold At;refine⟨by rw[D],?_,λx=>by rw[D]at x;cases x⟩;repeat(first|exact R|refine c8.cQ ?_ (by first|exact Or.inl rfl|exact Or.inr rfl) _)
        |none=>
         obtain⟨j,m,N,CU,IF⟩:=XI hk hm false r;have N:gn h k l.id true=some j:=N;have uf:=iF CU;have I4:yn h j=m.sign:=by simp[yn,CU]
         rw[r,N]at u;simp only[vn]at u;cases aa:(m.sign==l.sign)with
         |false=>
          have gy:(m.sign !=l.sign):=by simp[bne,aa]
          have D:=CD Y (show kx h (aF af.aJ h/2) k=false by rw[oy,H,r];simp only[Bool.not_false,N,I4,aa];rfl);simp only[go_sem,sC,Z,T,qP,X,uY,B,Q,f,cW,af.ps,aL,hp,w1,tv,ss,dZ,de,wq,u,H,DA,Ec,D_,uf,gy,xJ,yj,lh,lf,jd,pM,sI,x8,Int.reduceNeg,Int.reduceSub,O,L,A,y,ae,ao];refine⟨aw,aw,?_⟩;unfold At;refine⟨by rw[D],?_,λx=>by rw[D]at x;cases x⟩;repeat(first|exact R|refine c8.cQ ?_ (by first|exact Or.inl rfl|exact Or.inr rfl) _)
         |true=>
          have gy:(m.sign !=l.sign)=false:=by simp[bne,aa]
          have nT:kx h (aF af.aJ h/2) k:=by rw[oy,H,r];simp only[Bool.not_false,N,I4,aa];rfl
          have ox:=UX z E (show gn h k l.id l.over=none by rw[H];exact r);have M:=NH z E;rw[H]at ox M;rw[show gn h k l.id (!false)=some j from N]at M;have SO:nP h (k+1) l.id=[.int .i64 (k:Int),.int .i64 (j:Int)]:=by simp only[nP];rw[ox,show gn h (k+1) l.id true=some j from M];rfl
          rw[SO]at CZ;simp only[go_sem,sC,Z,T,qP,X,uY,B,Q,f,cW,af.ps,aL,hp,w1,tv,ss,dZ,de,wq,u,H,DA,Ec,D_,uf,gy,xJ,yj,lh,lf,jd,pM,sI,x8,Int.reduceNeg,Int.reduceSub,O,L,A,y,ae,ao];refine⟨aw,aw,aw,?_⟩;refine⟨Y,?_,?_,?_⟩
          .rw[CZ]
          .intro i f;rcases jG.1 f with x|rfl
           .exact ay i x
           exact nT
          repeat(first|exact R|refine c8.cQ ?_ (by first|exact Or.inl rfl|exact Or.inr rfl) _)
      rw[aD hm]at u;have r:=ahG hk hm;have zF:=agh z E hm;have nT:kx h (aF af.aJ h/2) k:=by rw[oy,r,r];rfl
      have ox:=UX z E (r _);have M:=NH z E;rw[r]at M;cases H:l.over with
      |true=>
       rw[H]at ox M;have Is:nP h (k+1) l.id=[.int .i64 (-1),.int .i64 (k:Int)]:=by simp only[nP];rw[ox,show gn h (k+1) l.id false=none from M];rfl
       rw[Is]at zF;simp only[go_sem,sC,Z,T,qP,X,uY,B,Q,f,cW,af.ps,aL,hp,w1,tv,ss,dZ,de,wq,u,H,Ec,D_,xJ,yj,lh,lf,jd,pM,sI,x8,Int.reduceNeg,Int.reduceSub,O,L,A,y,ae,ao];refine⟨aw,aw,aw,?_⟩;refine⟨Y,?_,?_,?_⟩
       .rw[zF]
       .intro i f;rcases jG.1 f with x|rfl
        .exact ay i x
        exact nT
       repeat(first|exact R|refine c8.cQ ?_ (by first|exact Or.inl rfl|exact Or.inr rfl) _)
      |false=>
       rw[H]at ox M;have Is:nP h (k+1) l.id=[.int .i64 (k:Int),.int .i64 (-1)]:=by simp only[nP];rw[ox,show gn h (k+1) l.id true=none from M];rfl
       rw[Is]at zF;simp only[go_sem,sC,Z,T,qP,X,uY,B,Q,f,cW,af.ps,aL,hp,w1,tv,ss,dZ,de,wq,u,H,Ec,D_,xJ,yj,lh,lf,jd,pM,sI,x8,Int.reduceNeg,Int.reduceSub,O,L,A,y,ae,ao];refine⟨aw,aw,aw,?_⟩;refine⟨Y,?_,?_,?_⟩
       .rw[zF]
       .intro i f;rcases jG.1 f with x|rfl
        .exact ay i x
        exact nT
       repeat(first|exact R|refine c8.cQ ?_ (by first|exact Or.inl rfl|exact Or.inr rfl) _)
  have:k=I h:=J;subst this;have hr:=aae ab ay;have kE:I (mR h (I h))=I (fg h (I h)):=by simp[mR]
  have hb:(((I (fg h (I h)):Nat):Int)==((aF af.aJ h/2:Nat):Int))=(I (fg h (I h))==aF af.aJ h/2):=by
   cases x:(I (fg h (I h))==aF af.aJ h/2)with
   |true=>simp at x |-;omega
   |false=>simp at x |-;omega
  simp only[go_sem,sC,VS,Z,T,X,uY,B,Q,dF,xJ,yj,lh,lf,jd,pM,sI,x8,Int.reduceNeg,Int.reduceSub,kE,dZ,de,wq,hb,O,L,A,y,ae,ao];exact⟨by rw[hr],R,λ_=>⟨_,B,Q⟩⟩
def AW{p:af->Bool}{i:Nat}{l:af}(q:h[i]?=some l)(hp:p l):aF p h=1↔ ∀j m,h[j]?=some m->p m->j=i:=by
 obtain⟨n,e⟩:=ct.1 q;have aa:h=h.take i++l::h.drop (i+1):=by rw[<-e,List.getElem_cons_drop];simp
 have u:aF p h=aF p (h.take i)+(aF p (h.drop (i+1))+1):=by
  conv=>lhs;rw[aa]
  simp[aF,Hq,sO,hp]
 constructor
 .intro r j m H f;have Z:aF p (h.take i)=0:=J;have z:aF p (h.drop (i+1))=0:=J;have Z:=B4.1 Z;have z:=B4.1 z;rcases Ct j i with x|x|x
  .have:m∈h.take i:=bY (i:=j) (by rw[lT,aM x,H]);exact absurd f (Z m this)
  .exact x
  have:m∈h.drop (i+1):=bY (i:=j-(i+1)) (by rw[BD,show i+1+(j-(i+1))=j by omega,H]);exact absurd f (z m this)
 intro g;have Z:aF p (h.take i)=0:=by
  refine B4.2 λm f L=>?_;obtain⟨j,H⟩:=iA f;have x:j<i:=by have:=(ct.1 H).1;rw[iU]at this;omega
  rw[lT,aM x]at H;have:=g j m H L;omega
 have z:aF p (h.drop (i+1))=0:=by refine B4.2 λm f L=>?_;obtain⟨j,H⟩:=iA f;rw[BD]at H;have:=g _ m H L;omega
 omega
def akC{p:af->Bool}(q:∀(i j:Nat) (l m:af),h[i]?=some l->h[j]?=some m->p l->p m->i=j):aF p h<=1:=by
 by_cases n:aF p h=0
 .omega
 have:0<h.countP p:=Nat.pos_of_ne_zero n;obtain⟨l,hl,hp⟩:=xz.1 this;obtain⟨i,H⟩:=iA hl;have:=(AW H hp).2 λj m g f=>q j i m l g H f hp;omega
structure pH (F:Nat) (ls:aI) (l:af):Prop where
 g0:0<=l.gate
 g1:l.gate<=(F:Int)
 r0:1<=l.aK
 r1:l.aK<=(dY ls l.gate.toNat:Int)
def NI{l:af}(hl:pH F h l)(H:pH F h m):ei h l=ei h m↔l.gate=m.gate/\l.aK=m.aK:=by
 obtain⟨n,q,y,L⟩:=hl;obtain⟨v,M,r,u⟩:=H;unfold ei;constructor
 .intro j;have sl:=uq h l.gate.toNat;have x:=uq h m.gate.toNat;rcases Ct l.gate.toNat m.gate.toNat with c|c|c
  .have:=zl (h:=h) (show l.gate.toNat+1<=m.gate.toNat by omega);omega
  .rw[c]at j;omega
  have:=zl (h:=h) (show m.gate.toNat+1<=l.gate.toNat by omega);omega
 rintro⟨g,f⟩;rw[g,f]
def adD{l:af}(hl:pH F h l)(H:pH F h m):yF l m↔ei h l<ei h m:=by
 obtain⟨f,g,u,L⟩:=hl;obtain⟨q,M,j,n⟩:=H;unfold ei yF;simp only[jC,cq,fH,c6];have sl:=uq h l.gate.toNat;have r:=uq h m.gate.toNat;rcases Ct l.gate.toNat m.gate.toNat with c|c|c
 .have:=zl (h:=h) (show l.gate.toNat+1<=m.gate.toNat by omega);omega
 .rw[c];omega
 have:=zl (h:=h) (show m.gate.toNat+1<=l.gate.toNat by omega);omega
def RS{l:af}(hl:pH F h l):ei h l<ig h (F+1):=by obtain⟨g,f,j,L⟩:=hl;unfold ei;have sl:=uq h l.gate.toNat;have:=zl (h:=h) (show l.gate.toNat+1<=F+1 by omega);omega
def Kb{i:Nat}{l:af}(r:h[i]?=some l)(hp:l.aN):oV h i↔1<=l.aK/\l.aK<=(dY h l.gate.toNat:Int)/\ ∀j m,j<i->h[j]?=some m->m.aN->ei h m≠ei h l:=by
 simp only[oV,r,hp,By,wL,cq,fH,hY,xM,f_];constructor
 .rintro ⟨⟨n,g⟩,q⟩
  refine⟨n,g,λj m f H L e=>?_⟩;have:=q j f;rw[E7 H L]at this;simp[e]at this
 rintro⟨n,g,q⟩
 refine⟨⟨n,g⟩,λj f=>?_⟩;unfold px;split
 .rename_i m H;cases L:m.aN with
  |false=>simp
  |true=>simpa using q j m f H L
 simp
def D4(f:qN F h):tX h↔(∀l∈h,l.aN->pH F h l)/\ ∀(i j:Nat) (l m:af),h[i]?=some l->h[j]?=some m->l.aN->m.aN->ei h l=ei h m->i=j:=by
 unfold tX;rw[gL];constructor
 .intro u;refine⟨λl hl hp=>?_,λi j l m H g B L e=>?_⟩
  .obtain⟨i,H⟩:=iA hl;have:=(Kb H hp).1 (u i (f_.2 (ct.1 H).1));exact⟨(f l hl hp).1,(f l hl hp).2,this.1,this.2.1⟩
  have q:=(Kb H B).1 (u i (f_.2 (ct.1 H).1));have v:=(Kb g L).1 (u j (f_.2 (ct.1 g).1));rcases Ct i j with c|c|c
  .exact absurd e (v.2.2 i l c H B)
  .exact c
  exact absurd e.symm (q.2.2 j m c g L)
 rintro⟨x,n⟩ i H
 obtain⟨l,hl⟩:=bq (f_.1 H);cases hp:l.aN with
 |false=>simp[oV,hl,hp]
 |true=>have f:=x l (bY hl) hp;refine(Kb hl hp).2 ⟨f.r0,f.r1,λj m g r L e=>?_⟩;have:=n j i m l r hl L hp e;omega
def Bb(g:Int)(h:0<=g)(l:af):jh g l=rn g.toNat l:=by unfold jh rn;rw[D0 h]
def Ao{l:af}(hp:l.aN):ek f l=false↔(((0<=l.gate/\l.gate<=f)/\l.id=0)/\l.sign=0)/\l.over=false:=by unfold af.aN at hp;simp only[ek,hp,if_true,Aj,decide_eq_false_iff_not,bne_eq_false_iff_eq,Int.not_lt]
def Dp{l:af}(hp:l.aN):rG f h l↔ek f l=false/\1<=l.aK/\l.aK<=(aF (jh l.gate) h:Int)/\aF (hs l) h=1:=by
 rw[Ao hp];unfold rG;simp only[hY,Aj,decide_eq_false_iff_not,bne_eq_false_iff_eq];constructor
 .rintro ⟨⟨⟨⟨⟨⟨⟨a,b⟩,c⟩,d⟩,e⟩,g⟩,H⟩,i⟩
  exact⟨⟨⟨⟨⟨J,J⟩,a⟩,b⟩,c⟩,J,J,J⟩
 rintro⟨⟨⟨⟨⟨d,e⟩,a⟩,b⟩,c⟩,g,H,i⟩
 exact⟨⟨⟨⟨⟨⟨⟨a,b⟩,c⟩,J⟩,J⟩,J⟩,J⟩,J⟩
def My{l:af}(hp:l.aN):hs l m↔m.aN=true/\m.gate=l.gate/\m.aK=l.aK:=by unfold af.aN at hp |-;simp only[c6]at hp;unfold hs;simp only[cq,c6,hp,and_assoc]
def aqU:(∀l∈h,l.aN->rG F h l)↔(∀l∈h,l.aN->ek F l=false)/\tX h:=by
 constructor
 .intro v;have r:∀l∈h,l.aN->ek F l=false:=λl hl hp=>((Dp hp).1 (v l hl hp)).1;have n:qN F h:=λl hl hp=>((Ao hp).1 (r l hl hp)).1.1.1;refine⟨r,(D4 n).2 ⟨λl hl hp=>?_,λi j l m q f B L e=>?_⟩⟩
  .obtain⟨_,H,u,_⟩:=(Dp hp).1 (v l hl hp);have:=n l hl hp;refine⟨this.1,this.2,H,?_⟩;have e:aF (jh l.gate) h=dY h l.gate.toNat:=by unfold dY aF;congr 1;funext m;exact Bb _ this.1 m
   omega
  have g:pH F h l:=by
   obtain⟨_,H,u,_⟩:=(Dp B).1 (v l (bY q) B);have:=n l (bY q) B;have e:aF (jh l.gate) h=dY h l.gate.toNat:=by unfold dY aF;congr 1;funext m;exact Bb _ this.1 m
   exact⟨this.1,this.2,H,J⟩
  have A:pH F h m:=by
   obtain⟨_,H,u,_⟩:=(Dp L).1 (v m (bY f) L);have:=n m (bY f) L;have e:aF (jh m.gate) h=dY h m.gate.toNat:=by unfold dY aF;congr 1;funext m;exact Bb _ this.1 m
   exact⟨this.1,this.2,H,J⟩
  have E:=(NI g A).1 e;have aa:=((Dp L).1 (v m (bY f) L)).2.2.2;exact(AW f ((My L).2 ⟨L,rfl,rfl⟩)).1 aa i l q ((My L).2 ⟨B,E.1,E.2⟩)
 rintro⟨r,y⟩ l hl hp
 have n:qN F h:=λl hl hp=>((Ao hp).1 (r l hl hp)).1.1.1;obtain⟨x,H⟩:=(D4 n).1 y;have g:=x l hl hp;have e:aF (jh l.gate) h=dY h l.gate.toNat:=by unfold dY aF;congr 1;funext m;exact Bb _ g.g0 m
 obtain⟨i,q⟩:=iA hl;refine(Dp hp).2 ⟨r l hl hp,g.r0,by rw[e];exact g.r1,(AW q ((My hp).2 ⟨hp,rfl,rfl⟩)).2 λj m f aa=>?_⟩;obtain⟨L,D,z⟩:=(My hp).1 aa;exact H j i m l f q L hp ((NI (x m (bY f) L) g).2 ⟨D,z⟩)
def oj(id:Int)(o:Bool)(l:af):Bool:=l.aJ&&(l.id==id&&l.over==o)
def Dz(H:h[j]?=some m)(id:Int)(o:Bool):nO h id o j=oj id o m:=by simp[nO,oj,H]
def nm{id:Int}{o:Bool}{l:af}:oj id o l↔l.aJ=true/\l.id=id/\l.over=o:=by unfold oj;simp only[cq,c6]
def He(h:aI):Prop:=∀(i j:Nat) (l m:af),h[i]?=some l->h[j]?=some m->l.aJ->m.aJ->l.id=m.id->i≠j->l.over≠m.over/\l.sign=m.sign
def Vs(h:aI):Prop:=∀l∈h,l.aJ->1<=l.id/\l.id<=((aF af.aJ h/2:Nat):Int)
def XM{n k:Nat}{l:af}(r:h[k]?=some l)(q:l.aJ):kx h n k↔(1<=l.id/\l.id<=(n:Int))/\gn h k l.id l.over=none/\ ∀j,gn h k l.id (!l.over)=some j->yn h j=l.sign:=by
 simp only[kx,r,q,By,wL,cq,fH,Option.isNone_iff_eq_none];constructor
 .rintro ⟨m,g,H⟩
  refine⟨m,g,λj f=>?_⟩;rw[f]at H
  simpa using H
 rintro⟨m,g,H⟩
 refine⟨m,g,?_⟩;split
 .rename_i j f
  simpa using H j f
 rfl
def FW:(∀k,k<I h->kx h (aF af.aJ h/2) k)↔Vs h/\He h:=by
 constructor
 .intro ab;have L:∀ {k:Nat}{l:af},h[k]?=some l->l.aJ->_:=λ{k l} A g=>(XM (n:=aF af.aJ h/2) A g).1 (ab k (ct.1 A).1);refine⟨λl hl g=>?_,?_⟩
  .obtain⟨i,H⟩:=iA hl;exact(L H g).1
  have y:∀(i j:Nat) (l m:af),h[i]?=some l->h[j]?=some m->l.aJ->m.aJ->l.id=m.id->i<j->l.over≠m.over/\l.sign=m.sign:=by
   intro i j l m H u D B q E;obtain⟨_,Z,aa⟩:=L u B;have R:l.over≠m.over:=by intro e;have:=HX Z E;rw[Dz H,nm.2 ⟨D,q,e⟩]at this;cases this
   refine⟨R,?_⟩;have F:l.over= !m.over:=by revert R;cases l.over<;>cases m.over<;>simp
   cases r:gn h j m.id (!m.over)with
   |none=>have:=HX r E;rw[Dz H,nm.2 ⟨D,q,F⟩]at this;cases this
   |some p=>
    have Y:=aa p r;obtain⟨Q,M⟩:=BM r;obtain⟨x,n,v,z,f⟩:=xx M;have:p=i:=by
     rcases Ct p i with c|c|c
     .have T:=(L H D).2.1;have:=HX T c;rw[Dz n,nm.2 ⟨v,by rw[z,q],by rw[f,F]⟩]at this;cases this
     .exact c
     have O:(List.range j).find? (nO h m.id (!m.over))=some p:=r;rw[List.find?_range_eq_some]at O;have:=O.2.2 i c;rw[Dz H,nm.2 ⟨D,q,F⟩]at this;cases this
    subst this;rw[H]at n;cases n
    simpa [yn,H]using Y
  intro i j l m H u D B q E;rcases Nat.lt_or_gt_of_ne E with c|c
  .exact y i j l m H u D B q c
  have:=y j i m l u H B D q.symm c;exact⟨λe=>this.1 e.symm,this.2.symm⟩
 rintro⟨X,N⟩ k A
 obtain⟨l,hl⟩:=bq A;cases g:l.aJ with
 |false=>simp[kx,hl,g]
 |true=>
  refine(XM hl g).2 ⟨X l (bY hl) g,?_,λj u=>?_⟩
  .cases r:gn h k l.id l.over with
   |none=>rfl
   |some p=>obtain⟨Q,M⟩:=BM r;obtain⟨x,n,v,z,f⟩:=xx M;exact absurd f (N p k x l n hl v g z J).1
  obtain⟨Q,M⟩:=BM u;obtain⟨x,n,v,z,f⟩:=xx M;have:=(N j k x l n hl v g z J).2;simp[yn,n,this]
def aoo(h:aI):∀ids:cS,ids.Nodup->(ids.map λid=>aF (kR id) h).sum=aF (λl=>l.aJ&&ids.contains l.id) h:=by
 intro ids
 induction ids with
 |nil=>intro _;simp[aF]
 |cons a ids j=>
  intro g;rw[n9]at g;rw[ew,HR,j g.2];refine(P7 (p:=kR a) (q:=λl=>l.aJ&&ids.contains l.id) (r:=λl=>l.aJ&&(a::ids).contains l.id) ?_ ?_ h).symm
  .intro l;simp only[kR,cq,c6,GD,fH,dL];constructor
   .rintro ⟨f,H|H⟩
    .exact .inl ⟨f,H⟩
    exact .inr ⟨f,H⟩
   rintro(⟨f,H⟩|⟨f,H⟩)
   .exact⟨f,.inl H⟩
   exact⟨f,.inr H⟩
  intro l;simp only[kR,cq,c6,GD,fH];rintro⟨_,f⟩ ⟨_,H⟩
  exact g.1 (f▸H)
def Kd{l:af}(hl:l∈h)(f:l.aJ):l.id∈fg h (I h):=by obtain⟨i,H⟩:=iA hl;refine(GQ (cH _)).2 ⟨i,l.over,(ct.1 H).1,?_⟩;rw[Dz H];exact nm.2 ⟨f,rfl,rfl⟩
def acH(h:aI):((fg h (I h)).map λid=>aF (kR id) h).sum=aF af.aJ h:=by
 rw[aoo _ _ (RE h _)];apply DV;intro l hl;cases H:l.aJ with
 |false=>simp
 |true=>simp[Kd hl H]
def UM(id:Int)(h:aI):aF (kR id) h=aF (oj id true) h+aF (oj id false) h:=by
 refine P7 ?_ ?_ h
 .intro l;rw[nm,nm];simp only[kR,cq,c6];cases l.over<;>simp
 intro l;rw[nm,nm];rintro⟨_,_,f⟩ ⟨_,_,H⟩
 rw[f]at H;cases H
def T_(id:Int)(o:Bool)(h:aI):aF (kR id) h=aF (oj id o) h+aF (oj id (!o)) h:=by
 rw[UM];cases o with
 |true=>rfl
 |false=>simp only[Bool.not_false];omega
def zp(v:He h)(id:Int)(o:Bool):aF (oj id o) h<=1:=by refine akC λi j l m r f hl H=>?_;obtain⟨L,g,u⟩:=nm.1 hl;obtain⟨q,M,n⟩:=nm.1 H;refine Decidable.byContradiction λA=>?_;exact(v i j l m r f L q (by rw[g,M]) A).1 (by rw[u,n])
def ama{f:Int->Nat}:∀ids:cS,(∀x∈ids,f x<=2)->(ids.map f).sum<=2*I ids:=by
 intro ids
 induction ids with
 |nil=>intro _;simp
 |cons a ids g=>intro h;have:=g λx H=>h x (s4 _ H);have:=h a uO;simp only[ew,HR,dE];omega
def ZQ{f:Int->Nat}:∀ids:cS,(∀x∈ids,f x<=2)->(ids.map f).sum=2*I ids->∀x∈ids,f x=2:=by
 intro ids
 induction ids with
 |nil=>intro _ _ x H;cases H
 |cons a ids g=>
  intro h aa;have m:=ama ids λx H=>h x (s4 _ H);have j:=h a uO;simp only[ew,HR,dE]at aa;intro x H;rcases dL.1 H with rfl|H
  .omega
  exact g (λx H=>h x (s4 _ H)) J x H
def akV{f:Int->Nat}:∀ids:cS,(∀x∈ids,f x=2)->(ids.map f).sum=2*I ids:=by
 intro ids
 induction ids with
 |nil=>intro _;simp
 |cons a ids g=>intro h;have:=g λx H=>h x (s4 _ H);have:=h a uO;simp only[ew,HR,dE];omega
def TT{l:af}(h:l.aJ):gM l m↔m.aJ=true/\m.id=l.id/\m.sign=l.sign/\m.over= !l.over:=by unfold af.aJ at h |-;simp only[c6]at h;unfold gM;simp only[cq,c6,h,and_assoc,hY,pQ,ne_eq];cases l.over<;>cases m.over<;>simp
def adv{l:af}(h:l.aJ):ek f l=false↔(l.gate=0/\l.aK=0)/\(l.sign !=1&&l.sign != -1)=false:=by
 unfold af.aJ at h;have H:(l.kind==1)=false:=by simp only[c6]at h;rw[h];rfl
 simp only[ek,h,H,if_true,Aj,bne_eq_false_iff_eq];simp
def V8{l:af}(H:l.aJ):oi h l↔ek f l=false/\(1<=l.id/\l.id<=((aF af.aJ h/2:Nat):Int))/\aF (gM l) h=1/\aF (kR l.id) h=2:=by
 rw[adv H];unfold oi;simp only[hY,Aj,decide_eq_false_iff_not,bne_eq_false_iff_eq];constructor
 .rintro ⟨⟨⟨⟨⟨⟨a,b⟩,c⟩,d⟩,e⟩,g⟩,j⟩
  exact⟨⟨⟨a,b⟩,c⟩,⟨J,J⟩,J,J⟩
 rintro⟨⟨⟨a,b⟩,c⟩,⟨d,e⟩,g,j⟩
 exact⟨⟨⟨⟨⟨⟨a,b⟩,c⟩,J⟩,J⟩,J⟩,J⟩
def akq:(∀l∈h,l.aJ->oi h l)↔(∀l∈h,l.aJ->ek f l=false)/\lA h:=by
 have Z:=acH h;constructor
 .intro ab;have D:=λl hl H=>(V8 (f:=f) H).1 (ab l hl H);have hp:He h:=by
   intro i j l m n v B u6 R sX;obtain⟨_,_,h3,h4⟩:=D l (bY n) B;have e1:=T_ l.id l.over h;have g1:0<aF (oj l.id l.over) h:=xz.2 ⟨l,bY n,nm.2 ⟨B,rfl,rfl⟩⟩;obtain⟨x,q,E⟩:=xz.1 (show 0<h.countP (gM l) by show 0<aF (gM l) h;omega);obtain⟨z,X,A,Y⟩:=(TT B).1 E;have r:0<aF (oj l.id (!l.over)) h:=xz.2 ⟨x,q,nm.2 ⟨z,X,Y⟩⟩;have u1:aF (oj l.id l.over) h=1:=J;have M:aF (oj l.id (!l.over)) h=1:=J;have ho:l.over≠m.over:=by intro e;have:=(AW n (nm.2 ⟨B,rfl,rfl⟩)).1 u1 j m v (nm.2 ⟨u6,R.symm,e.symm⟩);exact sX this.symm
   refine⟨ho,?_⟩;have jP:m.over= !l.over:=by revert ho;cases l.over<;>cases m.over<;>simp
   obtain⟨p,g⟩:=iA q;have:=(AW v (nm.2 ⟨u6,R.symm,jP⟩)).1 M p x g (nm.2 ⟨z,X,Y⟩);subst this;rw[g]at v;cases v;exact A.symm
  have F:∀id∈fg h (I h),aF (kR id) h=2:=by intro id u;obtain⟨j,o,h1,L⟩:=(GQ (cH _)).1 u;obtain⟨m,Q,H,n,_⟩:=xx L;rw[<-n];exact(D m (bY Q) H).2.2.2
  rw[akV _ F]at Z;refine⟨λl hl H=>(D l hl H).1,?_⟩;have q:=(FW (h:=h)).2 ⟨λl hl H=>(D l hl H).2.1,hp⟩;rw[aae J q];simp only[c6];omega
 rintro⟨hb,O⟩ l hl H
 unfold lA at O;simp only[cq,c6,gL,f_]at O;obtain⟨⟨R,q⟩,y⟩:=O;obtain⟨u,hp⟩:=FW.1 q;have T:∀id∈fg h (I h),aF (kR id) h<=2:=λid _=>by rw[UM id];have:=zp hp id true;have:=zp hp id false;omega
 have L:=ZQ _ T (by rw[Z,y];omega) l.id (Kd hl H);have e1:=T_ l.id l.over h;have b1:=zp hp l.id l.over;have b2:=zp hp l.id (!l.over);refine(V8 H).2 ⟨hb l hl H,u l hl H,?_,L⟩;have M:aF (oj l.id (!l.over)) h=1:=J;obtain⟨i,n⟩:=iA hl;obtain⟨x,q,E⟩:=xz.1 (show 0<h.countP (oj l.id (!l.over)) by show 0<aF (oj l.id (!l.over)) h;omega);obtain⟨p,g⟩:=iA q;obtain⟨z,X,A⟩:=nm.1 E;have fE:p≠i:=by
  rintro rfl
  rw[n]at g;cases g;revert A;cases l.over<;>simp
 have N:=(hp p i x l g n z H X fE).2;refine(AW g ((TT H).2 ⟨z,X,N,A⟩)).2 λj m v Q=>?_;obtain⟨m1,m2,m3,m4⟩:=(TT H).1 Q;exact(AW g E).1 M j m v (nm.2 ⟨m1,m2,m4⟩)
def KC{l:af}(h:ek f l=false):l.aN\/l.aJ:=by
 unfold af.aN af.aJ;cases H:(l.kind==1)with
 |true=>exact .inl rfl
 |false=>
  cases g:(l.kind==2)with
  |true=>exact .inr rfl
  |false=>simp only[ek,H,g]at h;cases h
def AQ{l:af}(hp:l.aN):l.aJ=false:=by unfold af.aN at hp;unfold af.aJ;simp only[c6]at hp;rw[hp];rfl
def Vx{l:af}(hp:l.aN):eT f h l=rG f h l:=by unfold af.aN at hp;simp only[eT,hp,if_true]
def Xk{l:af}(hp:l.aJ):eT f h l=oi h l:=by
 unfold af.aJ at hp;have H:(l.kind==1)=false:=by simp only[c6]at hp;rw[hp];rfl
 simp only[eT,hp,H,if_true];simp
def M6:rM F h↔h.any (ek F)=false/\tX h/\lA h:=by
 unfold rM;rw[gL,xM];have E:=aqU (F:=F) (h:=h);have m:=akq (f:=(F:Int)) (h:=h);constructor
 .intro x;have u:=λ{l:af} (hl:l∈h)=>acD (f:=F) (h:=h) (gL.2 x) (iA hl).choose_spec;obtain⟨n,q⟩:=E.1 λl hl hp=>by rw[<-Vx hp];exact x l hl
  obtain⟨y,v⟩:=m.1 λl hl g=>by rw[<-Xk (f:=F) g];exact x l hl
  refine⟨λl hl=>?_,q,v⟩;rcases u hl with hp|g
  .rw[n l hl hp];simp
  rw[y l hl g];simp
 rintro⟨H,r,g⟩ l hl
 have H:∀l∈h,ek F l=false:=λl hl=>by simpa using H l hl
 rcases KC (H l hl)with hp|j
 .rw[Vx hp];exact E.2 ⟨λl hl _=>H l hl,r⟩ l hl hp
 rw[Xk j];exact m.2 ⟨λl hl _=>H l hl,g⟩ l hl j
def afy{o:aA}(aa:o.Pairwise (· < ·))(A:∀x∈o,x<I o):∀(k:Nat) (h:k<I o),o[k]=k:=by
 rw[List.pairwise_iff_getElem]at aa;have L:∀(k:Nat) (h:k<I o),k<=o[k]:=by
  intro k
  induction k with
  |zero=>intro _;omega
  |succ k f=>intro h;have:=f J;have:=aa k (k+1) J h J;omega
 have H:∀(d k:Nat) (h:k<I o),k+d+1=I o->o[k]<=k:=by
  intro d
  induction d with
  |zero=>intro k h e;have:=A _ (J5 h);omega
  |succ d f=>intro k h e;have:=f (k+1) J J;have:=aa k (k+1) h J J;omega
 intro k h;have:=L k h;have:=H (I o-k-1) k h J;omega
def aro{f:Nat->Nat}{p:Nat->Bool}{i:Nat}:∀ {o:aA},o.Pairwise (λa b=>f a<f b)->(∀x∈o,p x=decide (f x<f i))->(∀x∈o,f x≠f i)->
  (o.take (I (o.takeWhile p))++i::o.drop (I (o.takeWhile p))).Pairwise (λa b=>f a<f b):=by
 intro o
 induction o with
 |nil=>intro _ _ _;simp
 |cons a o n=>
  intro aa hp j;rw[pW]at aa;have m:=hp a uO;have N:=j a uO;by_cases A:f a<f i
  .have g:p a:=by rw[m];simpa using A
   rw[List.takeWhile_cons,aM g];simp only[dE,M_,List.drop_succ_cons,Ei];rw[pW];refine⟨λb h=>?_,n aa.2 (λx H=>hp x (s4 _ H)) (λx H=>j x (s4 _ H))⟩;rcases fB.1 h with h|h
   .exact aa.1 b (qM h)
   rcases dL.1 h with rfl|h
   .exact A
   exact aa.1 b (rj h)
  have g:¬p a=true:=by rw[m];simpa using A
  rw[List.takeWhile_cons,aD g];simp only[eR,Mn,List.drop_zero,tz];rw[pW,pW];refine⟨λb h=>?_,aa⟩;rcases dL.1 h with rfl|h
  .omega
  have:=aa.1 b h;omega
def Cc{i:Nat}{l:af}(H:h[i]?=some l)(hp:l.aN):vC h i=ei h l:=by simp[vC,H,hp]
structure xL (F:Nat) (ls:aI):Prop where
 good:∀l∈ls,l.aN->pH F ls l
 inj:∀(i j:Nat) (l m:af),ls[i]?=some l->ls[j]?=some m->l.aN->m.aN->ei ls l=ei ls m->i=j
def ab7(q:xL F h):∀k,k<=I h->(mr h k).Pairwise (λa b=>vC h a<vC h b):=by
 intro k
 induction k with
 |zero=>intro _;simp[mr]
 |succ k j=>
  intro v;have j:=j J;rw[DU];obtain⟨l,hl⟩:=bq (show k<I h by omega);unfold vp;rw[hl];simp only;cases hp:l.aN with
  |false=>simpa using j
  |true=>
   simp only[if_true];unfold uw;have H:=λ{x:Nat} (f:x∈mr h k)=>(adH (h:=h) (k:=k) J).1 f;refine aro j (λx f=>?_) (λx f e=>?_)
   .obtain⟨r,m,H,g⟩:=H f;rw[Cc H g,Cc hl hp];unfold wb;rw[H,hl];simp only;have:=adD (q.good m (bY H) g) (q.good l (bY hl) hp);cases n:yF m l with
    |true=>simpa using this.1 n
    |false=>symm;rw[decide_eq_false_iff_not];intro u;rw[this.2 u]at n;cases n
   obtain⟨r,m,H,g⟩:=H f;rw[Cc H g,Cc hl hp]at e;have:=q.inj x k m l H hl g hp e;omega
def ae6:∀k,k<=I h->I (mr h k)=aF af.aN (h.take k):=by
 intro k
 induction k with
 |zero=>intro _;simp[mr,aF]
 |succ k f=>
  intro H;have f:=f J;rw[DU];obtain⟨l,hl⟩:=bq (show k<I h by omega);unfold vp;rw[hl];simp only;cases hp:l.aN with
  |false=>rw[jf hl hp];simpa using f
  |true=>simp only[if_true];rw[ase,pK hl hp,f]
def F_:I (aH h)=aF af.aN h:=by have:=ae6 (h:=h) (I h) (cH _);rwa[iV]at this
def GW(H:qN F h):ig h (F+1)=I (aH h):=by
 rw[F_,abS];apply DV;intro l hl;cases hp:l.aN with
 |false=>simp
 |true=>have:=H l hl hp;simp only[tI,cq,fH,iff_true];omega
def xL.qN(H:xL F h):qN F h:=λl hl hp=>⟨(H.good l hl hp).g0,(H.good l hl hp).g1⟩
def Bz(g:xL F h){k i:Nat}(H:(aH h)[k]?=some i):∃l,h[i]?=some l/\l.aN/\ei h l=k:=by
 have aa:((aH h).map (vC h)).Pairwise (· < ·):=by rw[Iv];exact ab7 g (I h) (cH _)
 have n:=GW g.qN;have A:∀x∈(aH h).map (vC h),x<I ((aH h).map (vC h)):=by intro x f;obtain⟨j,m,rfl⟩:=eJ.1 f;obtain⟨l,hl,hp⟩:=tm.1 m;rw[Cc hl hp,cT,<-n];exact RS (g.good l (bY hl) hp)
 obtain⟨q,r⟩:=ct.1 H;have:=afy aa A k (by rw[cT];exact q);rw[vA,r]at this;obtain⟨l,hl,hp⟩:=tm.1 (bY H);exact⟨l,hl,hp,by rw[<-Cc hl hp];exact this⟩
def TM(f:xL F h){i:Nat}{l:af}(hl:h[i]?=some l)(hp:l.aN):(aH h)[ei h l]?=some i:=by have A:=RS (f.good l (bY hl) hp);rw[GW f.qN]at A;obtain⟨j,H⟩:=bq A;obtain⟨m,g,q,n⟩:=Bz f H;rw[H,f.inj j i m l g hl q hp n]
def E0(n:xL F h){i:Nat}{l:af}(hl:h[i]?=some l)(hp:l.aN):(aH h).idxOf i=ei h l:=by have j:=TM n hl hp;have f:=adW (bY j);obtain⟨m,H,q,g⟩:=Bz n f;rw[hl]at H;cases H;exact g.symm
def ahI(q:xL F h):oT h (ig h (F+1)) (I h)=aH h:=by
 apply rT
 .rw[W3,GW q.qN]
 intro k v r;simp only[oT,vA,BE];obtain⟨l,hl,hp,f⟩:=Bz q (oO r);generalize(aH h)[k]=i at hl;unfold HB;have O:=(ct.1 hl).1;have n:(List.range (I h)).find? (px h k)=some i:=by
  refine wR O (λj u=>?_) ?_
  .cases H:px h k j with
   |false=>rfl
   |true=>
    unfold px at H;split at H
    .rename_i m g;simp only[cq,c6]at H;have:=q.inj j i m l g hl H.1 hp (by rw[H.2,f]);omega
    cases H
  rw[E7 hl hp];simp[f]
 rw[n];rfl
def Ja(y:lA h){i:Nat}{l:af}(hl:h[i]?=some l)(L:l.aJ):gn h (I h) l.id (!l.over)=some (jY h i)/\jY h i<I h:=by
 have T:=acH h;unfold lA at y;simp only[cq,c6,gL,f_]at y;obtain⟨⟨he,z⟩,g⟩:=y;obtain⟨ab,hp⟩:=FW.1 z;have A:∀id∈fg h (I h),aF (kR id) h<=2:=λid _=>by rw[UM id];have:=zp hp id true;have:=zp hp id false;omega
 have H:=ZQ _ A (by rw[T,g];omega) l.id (Kd (bY hl) L);have e1:=T_ l.id l.over h;have b1:=zp hp l.id l.over;have b2:=zp hp l.id (!l.over);obtain⟨x,z,N⟩:=xz.1 (show 0<h.countP (oj l.id (!l.over)) by show 0<aF (oj l.id (!l.over)) h;omega);obtain⟨p,f⟩:=iA z;obtain⟨F,E,B⟩:=nm.1 N;have D:=(ct.1 f).1;have Q:p≠i:=by
  rintro rfl
  rw[hl]at f;cases f;revert B;cases l.over<;>simp
 have u:∀(j:Nat) (m:af),h[j]?=some m->m.aJ->m.id=l.id->j≠i->j=p:=by intro j m v M r X;refine Decidable.byContradiction λaY=>?_;have Z:=(hp j i m l v hl M L r X).1;have O:=(hp j p m x v f M F (by rw[r,E]) aY).1;rw[B]at O;revert Z O;cases m.over<;>cases l.over<;>simp
 have vY:(List.range (I h)).find? (uS h i)=some p:=by
  refine wR D (λj v=>?_) ?_
  .cases n:uS h i j with
   |false=>rfl
   |true=>
    unfold uS at n;simp only[cq,bne_iff_ne,ne_eq]at n;obtain⟨Y,H⟩:=n;split at H
    .rename_i m q;simp only[cq,c6,hl,oG,jV]at H;have:=u j m q H.1 H.2 Y;omega
    cases H
  unfold uS;rw[f];simp[Q,F,hl,E]
 have ho:jY h i=p:=by unfold jY;rw[vY];rfl
 rw[ho];refine⟨?_,D⟩;unfold gn;refine wR D (λj v=>?_) ?_
 .cases n:nO h l.id (!l.over) j with
  |false=>rfl
  |true=>
   obtain⟨m,q,M,r,R⟩:=xx n;have X:j≠i:=by
    rintro rfl
    rw[hl]at q;cases q;revert R;cases l.over<;>simp
   have:=u j m q M r X;omega
 rw[Dz f];exact N
end
end Go.Abs
