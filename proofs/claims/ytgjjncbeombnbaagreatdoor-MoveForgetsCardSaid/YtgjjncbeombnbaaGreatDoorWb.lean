/- A part. -/
import Derived.Test.YtgjjncbeombnbaaGreatDoorWa
set_option linter.all false
open List renaming length->I
set_option maxRecDepth 100000
set_option maxHeartbeats 16000000
namespace Go.Abs
variable{n:bj}{u x j v:Nat}{y z:a7}{m:U}
section
variable{h:af}{F:Nat}{f:Int}
abbrev H4(id:Nat):Prop:=id=1344320128\/oY id=82
abbrev we(F:Nat)(ls:af)(c2 c3 c4 c5 c6:a7):dY:=[.p (.int .i64 (F:Int)),.p (od ls),c2,c3,c4,c5,c6]
abbrev ae(id g n:Nat):a7:=.hsl id g 1 0 n
abbrev tM(F:Nat)(ls:af):Prop:=∀l∈ls,l.aw->0<=l.gate/\l.gate<=(F:Int)
def HM(F:Nat)(h:af)(g:Nat)(y:a7)(L:aG)(v:V)(A:aG):Prop:=
 v=iI (AL h)/\dL H4 L A/\(AL h->∃g1 u x f,A 1344320128=(g,some (.var (we F h (ae 5248128448 u (I h)) (ae 5249344128 f (cX h (F+1))) (ae 5248192448 x (I h)) y (ae 5248064448 g1 (F+1)))))/\
  A 5248064448=(g1,some (.arr 3 1 (bt (gb h F))))/\A 5248128448=(u,some (.arr 4 1 (hJ (mF h))))/\A 5248192448=(x,some (.arr 3 1 (bt (jZ h (I h)))))/\
  A 5249344128=(f,some (.arr 3 1 (bt (sU h (cX h (F+1)) (I h))))))
def av6{al:bU}(O:al.ok 1344320128)(ok:∀id,oY id=82->al.ok id){lO blk:aG}{g g1 g4 F:Nat}{h:af}{c3:a7}(hl:I h<=1000000)(hF:F<=1000000)(hg:tM F h)
  (D:n 0=.one (.bh 1344320128 g 0)) (h6:n 6=.one (ae 5248832384 g4 (F+1))) (h7:n 7=aE (cX h (F+1)))
  (z:blk 1344320128=(g,some (.var (we F h (ae 5248128448 u (I h)) c3 (ae 5248192448 x (I h)) y (ae 5248064448 g1 (F+1))))))
  (B:blk 5248064448=(g1,some (.arr 3 1 (bt (gb h F))))) (bW:blk 5248128448=(u,some (.arr 4 1 (hJ (mF h))))) (pZ:blk 5248192448=(x,some (.arr 3 1 (bt (jZ h 0)))))
  (bF:blk 5248832384=(g4,some (.arr 3 1 (bt (Iw h F))))) (hk:dL H4 lO blk):W S al Ur (tU al [(2,none)] (HM F h g y lO)) n blk:=by
 have o1:=ok 5248064448 rfl;have o2:=ok 5248128448 rfl;have o3:=ok 5248192448 rfl;have o4:=ok 5248448192 rfl;have o5:=ok 5248832384 rfl;have o6:=ok 5249344128 rfl;have o7:=ok 5249408064 rfl;have o8:=ok 5249600192 rfl;have hT:=Vs h (F+1);have Oj:cX h (F+1)*8<=140737488355328:=J;have j4:cX h (F+1)<=140737488355328:=J;simp only[go_sem,Ur,D,h7,z,Oj,j4,O,o6,o7];refine df (λk n A=>n 0=.one (.bh 1344320128 g 0)/\n 6=.one (ae 5248832384 g4 (F+1))/\n 10=.one (ae 5249408064 ((blk 5249408064).1+1) (cX h (F+1)))/\n 114=.one (.p (od h))/\n 115=aE (I h)/\n 116=aE k/\
  A 1344320128=(g,some (.var (we F h (ae 5248128448 u (I h)) (ae 5249344128 ((blk 5249344128).1+1) (cX h (F+1))) (ae 5248192448 x (I h)) y (ae 5248064448 g1 (F+1)))))/\
  A 5248064448=(g1,some (.arr 3 1 (bt (gb h F))))/\A 5248128448=(u,some (.arr 4 1 (hJ (mF h))))/\A 5248192448=(x,some (.arr 3 1 (bt (jZ h k))))/\
  A 5248832384=(g4,some (.arr 3 1 (bt (Iw h F))))/\A 5249344128=((blk 5249344128).1+1,some (.arr 3 1 (bt (sU h (cX h (F+1)) k))))/\A 5249408064=((blk 5249408064).1+1,some (.arr 4 1 (hJ (xr h (cX h (F+1)) k))))/\
  (∀i,i<k->xD h i)/\dL H4 lO A) 0 (I h) (bN _) ?_ ?_
 .simp only[go_sem,D,h6,B,bW,pZ,bF,atu,aoK,UY,abT];refine⟨rfl,rfl,λi M=>absurd M (nJ i),?_⟩;repeat(first|exact hk|refine dL.dN ?_ (by first|exact Or.inl rfl|exact Or.inr rfl) _)
 rintro k n A hk ⟨D,h6,ik,Z,T,Q,z,B,bW,pZ,bF,bA,bT,aD,N⟩
 by_cases v:k<I h
 .obtain⟨l,f⟩:=aM v;have j:=jh f;have Y:((k:Int)<(I h:Int)):=J;have w1:=cE (n:=k) J;cases hp:(l.kind==1)with
  |false=>
   have E:l.aw=false:=hp;have X:(l.kind !=1):=by simp[bne,hp]
   simp only[go_sem,Fc,D,h6,ik,Z,T,Q,z,B,bW,bF,pZ,bA,bT,j,U.ps,Y,X,w1,o8];refine⟨v,?_,?_,?_,?_,?_⟩
   .rw[aly f E]
   .rw[awF f E]
   .rw[atW f E]
   .intro i j;rcases wT.1 j with M|rfl
    .exact aD i M
    exact by simp[xD,f,E]
   repeat(first|exact N|refine dL.dN ?_ (by first|exact Or.inl rfl|exact Or.inr rfl) _)
  |true=>
   have E:l.aw:=hp;have X:(l.kind !=1)=false:=by simp[bne,hp]
   obtain⟨B7,Ko⟩:=hg l (aX f) E;obtain⟨G,hG⟩:=lB B7;have DU:G<=F:=J;have DV:G<F+1:=J;have qL:=iY (Ey (h:=h) DU);have zL:=iY (akZ (h:=h) DU);have jK:l.gate.toNat=G:=J;cases r1:decide (l.ao<1)with
   |true=>have ui:=D1 r1;have ab:¬1<=l.ao:=J;have m:=Zc v (by simp[xD,f,E,ab]);simp only[go_sem,Fc,Z,T,Q,j,U.ps,Y,X,ui,o8];refine⟨aS,?_⟩;unfold HM;refine⟨by rw[m],?_,λM=>by rw[m]at M;cases M⟩;repeat(first|exact N|refine dL.dN ?_ (by first|exact Or.inl rfl|exact Or.inr rfl) _)
   |false=>
    have ui:=xA r1;obtain⟨R,hR⟩:=lB (show 0<=l.ao by omega);have L:¬((R:Int)<1):=J;cases r2:decide ((aJ h G:Int)<(R:Int))with
    |true=>
     have u4:=D1 r2;have ad:¬l.ao<=(aJ h l.gate.toNat:Int):=by rw[jK];omega
     have m:=Zc v (by simp[xD,f,E,ad]);simp only[go_sem,Fc,D,Z,T,Q,z,B,j,U.ps,Y,X,hR,hG,L,u4,qL,DV,O,o1,o8];refine⟨aS,?_⟩;unfold HM;refine⟨by rw[m],?_,λM=>by rw[m]at M;cases M⟩;repeat(first|exact N|refine dL.dN ?_ (by first|exact Or.inl rfl|exact Or.inr rfl) _)
    |false=>
     have u4:=xA r2;have ag:=Vs h G;have ac:=wO (h:=h) (show G+1<=F+1 by omega);have vU:=lz h G;have H:eC h l<cX h (F+1):=by unfold eC;rw[jK];omega
     have cA:cX h G+R-1=eC h l:=by unfold eC;rw[jK];omega
     have dS:aJ h G<=I h:=tH _ _;have w2:=rX (a:=cX h G) (b:=R) J;have w3:=Af (a:=cX h G+R) J J;rw[cA]at w3;have HT:=sW (anH (h:=h) (k:=k) H);cases hu:(List.range k).any (uo h (eC h l))with
     |true=>rw[hu]at HT;have m:=Zc v (by simp[xD,f,E,hu]);simp only[go_sem,Fc,D,h6,ik,Z,T,Q,z,B,bF,bT,j,U.ps,Y,X,hR,hG,L,u4,qL,zL,DV,w2,w3,HT,H,O,o1,o5,o7,o8];refine⟨aS,aS,?_⟩;unfold HM;refine⟨by rw[m],?_,λM=>by rw[m]at M;cases M⟩;repeat(first|exact N|refine dL.dN ?_ (by first|exact Or.inl rfl|exact Or.inr rfl) _)
     |false=>
      rw[hu]at HT;have j5:xD h k:=by
       have e1:1<=l.ao:=J;have e2:l.ao<=(aJ h l.gate.toNat:Int):=by rw[jK];omega
       simp[xD,f,e1,e2,hu]
      obtain⟨a0,A2⟩:=aM (show eC h l<I (sU h (cX h (F+1)) k) by rw[ac5];exact H);obtain⟨p0,gQ⟩:=aM (show k<I (jZ h k) by rw[awh];exact v);have s1:=IZ (xr h (cX h (F+1)) k) (eC h l) true;rw[<-apb f E]at s1;have s2:=Jm (sU h (cX h (F+1)) k) (eC h l) k;rw[<-akv f E hu]at s2;have uY:=Jm (jZ h k) k (eC h l);rw[<-ax4 f E]at uY;simp only[go_sem,Fc,D,h6,ik,Z,T,Q,z,B,bW,bF,pZ,bA,bT,j,U.ps,Y,v,X,w1,hR,hG,L,u4,qL,zL,DV,w2,w3,HT,H,iY A2,iY gQ,s1,s2,uY,O,o1,o3,o5,o6,o7,o8];refine⟨aS,aS,aS,?_,?_⟩
      .intro i j;rcases wT.1 j with M|rfl
       .exact aD i M
       exact j5
      repeat(first|exact N|refine dL.dN ?_ (by first|exact Or.inl rfl|exact Or.inr rfl) _)
 have:k=I h:=J;subst this;simp only[go_sem,Fc,afj,T,Q,ff];exact⟨by rw[ar4 aD],N,λ_=>⟨g1,u,x,(blk 5249344128).1+1,z,B,bW,pZ,bA⟩⟩
def atk{al:bU}(O:al.ok 1344320128)(ok:∀id,oY id=82->al.ok id){L blk:aG}{g g1 F:Nat}{h:af}{c3:a7}(hl:I h<=1000000)(hF:F<=1000000)(hg:tM F h)
  (H:n 0=.one (.bh 1344320128 g 0))
  (B:blk 1344320128=(g,some (.var (we F h (ae 5248128448 u (I h)) c3 (ae 5248192448 x (I h)) y (ae 5248064448 g1 (F+1))))))
  (m:blk 5248064448=(g1,some (.arr 3 1 (bt (gb h F))))) (v:blk 5248128448=(u,some (.arr 4 1 (hJ (mF h))))) (z:blk 5248192448=(x,some (.arr 3 1 (bt (jZ h 0)))))
  (N:dL H4 L blk):W S al WS (tU al [(2,none)] (HM F h g y L)) n blk:=by
 have o1:=ok 5248064448 rfl;have o2:=ok 5248128448 rfl;have o3:=ok 5248192448 rfl;have o4:=ok 5248448192 rfl;have Q:=ok 5248832384 rfl;have o6:=ok 5249344128 rfl;have o7:=ok 5249408064 rfl;have o8:=ok 5249600192 rfl;have Oj:(F+1)*8<=140737488355328:=J;have wF:=cE (n:=F) J;simp only[go_sem,WS,H,B,wF,Oj,O,Q];refine df (λk n A=>n 0=.one (.bh 1344320128 g 0)/\n 6=.one (ae 5248832384 ((blk 5248832384).1+1) (F+1))/\n 7=aE (cX h k)/\n 88=.one (ae 5248064448 g1 (F+1))/\n 89=aE ((F+1:Nat):Int)/\n 90=aE k/\
  A 1344320128=(g,some (.var (we F h (ae 5248128448 u (I h)) c3 (ae 5248192448 x (I h)) y (ae 5248064448 g1 (F+1)))))/\
  A 5248064448=(g1,some (.arr 3 1 (bt (gb h F))))/\A 5248128448=(u,some (.arr 4 1 (hJ (mF h))))/\A 5248192448=(x,some (.arr 3 1 (bt (jZ h 0))))/\
  A 5248832384=((blk 5248832384).1+1,some (.arr 3 1 (bt (wH h F k))))/\dL H4 L A) 0 (F+1) (bN _) ?_ ?_
 .simp only[go_sem,H,B,m,v,z,azl,UY];refine⟨rfl,rfl,rfl,?_⟩;repeat(first|exact N|refine dL.dN ?_ (by first|exact Or.inl rfl|exact Or.inr rfl) _)
 rintro k n A N ⟨H,Y,R,D,f,j,B,m,v,z,bF,M⟩
 by_cases T:k<F+1
 .have aL:((k:Int)<((F+1:Nat):Int)):=J;have w1:=cE (n:=k) J;have hc:=iY (Ey (h:=h) (show k<=F by omega));obtain⟨a0,E⟩:=aM (show k<I (wH h F k) by rw[asm];exact T);have E:=iY E;have X:=Jm (wH h F k) k (cX h k);rw[<-ayV]at X;have ae:=lz h k;have ab:=Vs h (k+1);have Z:=rX (a:=cX h k) (b:=aJ h k) J;rw[<-ae]at Z;simp only[go_sem,Vi,H,Y,R,D,f,j,B,m,v,z,bF,T,aL,hc,E,X,w1,Z,o1,Q];repeat(first|exact M|refine dL.dN ?_ (by first|exact Or.inl rfl|exact Or.inr rfl) _)
 have:k=F+1:=J;subst this;simp only[go_sem,Vi,f,j,ff];exact av6 O ok hl hF hg H Y R B m v z (by rw[bF,au4]) M
def atz{al:bU}(O:al.ok 1344320128)(ok:∀id,oY id=82->al.ok id){blk:aG}{g F:Nat}{h:af}{c3 c4 c6:a7}(hl:I h<=1000000)(hF:F<=1000000)(T:tM F h)
  (B:blk 1344320128=(g,some (.var (we F h z c3 c4 y c6)))):∃v A,jG S 82 [.one (.bh 1344320128 g 0)] al blk v A/\HM F h g y blk v A:=by
 have o1:=ok 5248064448 rfl;have Z:=ok 5248128448 rfl;have o3:=ok 5248192448 rfl;have o4:=ok 5248448192 rfl;have o5:=ok 5248832384 rfl;have o6:=ok 5249344128 rfl;have o7:=ok 5249408064 rfl;have o8:=ok 5249600192 rfl;refine oX apU (jx rfl) ?_;have Oj:(F+1)*8<=140737488355328:=J;have M:I h*8<=140737488355328:=J;have kK:I h<=140737488355328:=J;have wF:=cE (n:=F) J;simp only[go_sem,aeN,B,wF,Oj,M,kK,O,o1,Z,o3];refine df (λk n A=>n 0=.one (.bh 1344320128 g 0)/\n 3=iI (dn h k)/\n 48=.one (.p (od h))/\n 49=aE (I h)/\n 50=aE k/\
  A 1344320128=(g,some (.var (we F h (ae 5248128448 ((blk 5248128448).1+1) (I h)) c3 (ae 5248192448 ((blk 5248192448).1+1) (I h)) y (ae 5248064448 ((blk 5248064448).1+1) (F+1)))))/\
  A 5248064448=((blk 5248064448).1+1,some (.arr 3 1 (bt (rz h F k))))/\A 5248128448=((blk 5248128448).1+1,some (.arr 4 1 (hJ (tO h k))))/\A 5248192448=((blk 5248192448).1+1,some (.arr 3 1 (bt (jZ h 0))))/\
  dL H4 blk A) 0 (I h) (bN _) ?_ ?_
 .simp only[go_sem,B,Y3,al6,atG,UY,abT];refine⟨rfl,rfl,rfl,rfl,?_⟩;repeat(first|exact(dL.refl _ _)|refine dL.dN ?_ (by first|exact Or.inl rfl|exact Or.inr rfl) _)
 rintro k n A hk ⟨u,h3,NB,j,H,B,x,N,Q,D⟩
 by_cases m:k<I h
 .obtain⟨l,f⟩:=aM m;have hi:=jh f;have X:((k:Int)<(I h:Int)):=J;have R:=cE (n:=k) J;cases hp:(l.kind==1)with
  |false=>
   have E:=hp;simp only[go_sem,R2,u,h3,NB,j,H,B,x,N,Q,hi,U.ps,X,hp,R,o4];refine⟨m,?_,?_,?_,?_⟩
   .rw[JJ f E]
   .rw[adt f E]
   .rw[ayq f E]
   repeat(first|exact D|refine dL.dN ?_ (by first|exact Or.inl rfl|exact Or.inr rfl) _)
  |true=>have E:=hp;obtain⟨B7,Ko⟩:=T l (aX f) E;obtain⟨G,hG⟩:=lB B7;have DU:G<=F:=J;have DV:G<F+1:=J;have qL:=iY (agc (h:=h) (k:=k) DU);have dS:aJ (h.take k) G<=k:=yU _ _ _;have w2:=cE (n:=aJ (h.take k) G) J;have s1:=Jm (rz h F k) G (aJ (h.take k) G+1);rw[<-ahv f E hG]at s1;obtain⟨b0,L⟩:=aM (show k<I (tO h k) by rw[ann];exact m);have L:=sW L;have Y:=IZ (tO h k) k (dn h k);rw[<-aqB f E]at Y;have hd:=Dy f E;simp only[go_sem,R2,u,h3,NB,j,H,B,x,N,Q,hi,U.ps,X,m,hp,R,hG,qL,DV,w2,s1,L,Y,hd,O,o1,Z,o4];refine⟨aS,?_⟩;repeat(first|exact D|refine dL.dN ?_ (by first|exact Or.inl rfl|exact Or.inr rfl) _)
 have:k=I h:=J;subst this;simp only[go_sem,R2,j,H,ff];exact atk O ok hl hF T u B (by rw[x,Zb]) (by rw[N,al4]) Q D
def qx(h:af)(id:Int)(o:Bool)(j:Nat):Bool:=match h[j]? with|some m=>m.aq&&(m.id==id&&m.over==o)|none=>false
def ig(h:af)(k:Nat)(id:Int)(o:Bool):dZ:=(List.range k).find? (qx h id o)
def Cy:dZ->Int
 |some j=>j
 |none=> -1
def fx(h:af):Nat->bQ
 |0=>[]
 |k+1=>match h[k]? with
  |some l=>if l.aq&& !(fx h k).contains l.id then fx h k++[l.id]else fx h k
  |none=>fx h k
def rS(h:af)(k:Nat)(id:Int):dF:=[.int .i64 (Cy (ig h k id false)),.int .i64 (Cy (ig h k id true))]
def oZ(h:af)(k:Nat):yK:=(fx h k).map λid=>(PV.int .i64 id,rS h k id)
def xW(h:af)(j:Nat):Int:=((h[j]?).map U.sign).getD 0
def mW(h:af)(n:Nat)(k:Nat):Bool:=match h[k]? with
 |some l=> !l.aq||((decide (1<=l.id)&&decide (l.id<=(n:Int)))&&((ig h k l.id l.over).isNone&&(match ig h k l.id (!l.over)with|some j=>xW h j==l.sign|none=>true)))
 |none=>true
def lA(h:af):Bool:=(au U.aq h%2==0)&&(List.range (I h)).all (mW h (au U.aq h/2))&&(I (fx h (I h))==au U.aq h/2)
theorem H2{k:Nat}{l:U}(f:h[k]?=some l)(H:l.aq)(id:Int)(o:Bool):qx h id o k=(l.id==id&&l.over==o):=by simp[qx,f,H]
theorem ahO{k:Nat}{l:U}(f:h[k]?=some l)(H:l.aq=false)(id:Int)(o:Bool):qx h id o k=false:=by simp[qx,f,H]
theorem PS(h:af)(k:Nat)(id:Int)(o:Bool):ig h (k+1) id o=(ig h k id o).or (if qx h id o k then some k else none):=by simp[ig,mD,YW,List.find?_cons,List.find?_nil];cases qx h id o k<;>rfl
def IV{k:Nat}{id:Int}{o:Bool}(H:ig h k id o=some j):j<k/\qx h id o j:=
 ⟨fA.1 (Cv H),CO H⟩
theorem CI{id:Int}{o:Bool}(H:qx h id o j):∃m,h[j]?=some m/\m.aq/\m.id=id/\m.over=o:=by
 unfold qx at H
 grind
theorem Li{k:Nat}{id:Int}{o:Bool}(f:ig h k id o=none)(H:j<k):qx h id o j=false:=by
 have:=CR.1 f j (fA.2 H)
 simpa using this
theorem agS{k:Nat}{l:U}(f:h[k]?=some l)(H:l.aq=false):fx h (k+1)=fx h k:=by simp[fx,f,H]
def alN{k:Nat}{l:U}(j:h[k]?=some l)(f:l.aq)(H:l.id∉fx h k):fx h (k+1)=fx h k++[l.id]:=by simp[fx,j,f,H]
def alV{k:Nat}{l:U}(f:h[k]?=some l)(H:l.id∈fx h k):fx h (k+1)=fx h k:=by simp[fx,f,H]
def as6{k:Nat}{l:U}(f:h[k]?=some l)(H:l.aq=false):oZ h (k+1)=oZ h k:=by grind [oZ,rS,agS,PS,ahO]
def aqa{id:Int}:∀(k:Nat),k<=I h->(id∈fx h k↔ ∃j o,j<k/\qx h id o j):=by
 intro k
 induction k with
 |zero=>intro _;simp[fx]
 |succ k m=>
  intro u;obtain⟨l,hl⟩:=aM (show k<I h by omega);have m:=m J;cases n:l.aq with
  |false=>grind [agS,ahO]
  |true=>
   have f:id∈fx h (k+1)↔(id∈fx h k\/id=l.id):=by grind [fx]
   rw[f,m];constructor
   .rintro (v|rfl)
    .exact(λ⟨j,o,x,H⟩=>⟨j,o,J,H⟩) v
    exact⟨k,l.over,J,by rw[H2 hl n];simp⟩
   grind [H2]
where fV {p:Prop} (h:p):p:=h
theorem Gw{id:Int}{k:Nat}(H:k<=I h):id∈fx h k↔ ∃j o,j<k/\qx h id o j:=aqa k H
theorem R4(h:af):∀k,(fx h k).Nodup:=by
 intro k
 induction k with
 |zero=>simp[fx]
 |succ k f=>
  unfold fx
  grind
def ar2{k:Nat}(H:k<=I h){id:Int}(f:id∉fx h k)(o:Bool):ig h k id o=none:=by grind [ig,Gw]
def aiO{k:Nat}(u:k<=I h){id:Int}(x:id∈fx h k)(o:Bool)(v:ig h k id o=none):∃j m,ig h k id (!o)=some j/\h[j]?=some m/\j<k:=by
 obtain⟨j,O,n,H⟩:=(Gw u).1 x;by_cases e:O=o
 .subst e;rw[Li v n]at H;cases H
 have e:O= !o:=by cases o<;>cases O<;>simp_all
 subst e;cases f:ig h k id (!o)with
 |none=>rw[Li f n]at H;cases H
 |some i=>
  obtain _:=IV f
  grind [CI]
def afc{k:Nat}{l:U}(j:h[k]?=some l)(f:l.aq){id:Int}(H:¬l.id=id)(o:Bool):ig h (k+1) id o=ig h k id o:=by rw[PS,H2 j f];simp[H]
def Tk{k:Nat}{l:U}(j:h[k]?=some l)(f:l.aq)(H:ig h k l.id l.over=none):ig h (k+1) l.id l.over=some k:=by rw[PS,H2 j f,H];simp
def X9{k:Nat}{l:U}(f:h[k]?=some l)(H:l.aq):ig h (k+1) l.id (!l.over)=ig h k l.id (!l.over):=by rw[PS,H2 f H];cases l.over<;>simp
theorem aem{k:Nat}{l:U}(j:h[k]?=some l)(f:l.aq){id:Int}(H:¬l.id=id):rS h (k+1) id=rS h k id:=by unfold rS;rw[afc j f H,afc j f H]
def aqt{k:Nat}{l:U}(j:h[k]?=some l)(f:l.aq)(H:l.id∉fx h k):oZ h (k+1)=oZ h k++[(.int .i64 l.id,rS h (k+1) l.id)]:=by
 unfold oZ;rw[alN j f H,fE]
 grind [kD,aem]
def aw6{k:Nat}{l:U}(j:h[k]?=some l)(m:l.aq)(H:l.id∈fx h k):oZ h (k+1)=(oZ h k).set ((fx h k).idxOf l.id) (.int .i64 l.id,rS h (k+1) l.id):=by
 unfold oZ;rw[alV j H];apply wh
 .simp
 intro i f n
 grind [aem,R4]
def acK(h:af)(k:Nat)(q:Int):zl (.int .i64 q) (oZ h k) 0=some (if q∈fx h k then some ((fx h k).idxOf q,rS h k q)else none):=by unfold oZ;rw[axN];simp
def H6{k:Nat}(H:k<I h)(f:mW h (au U.aq h/2) k=false):lA h=false:=by have:(List.range (I h)).all (mW h (au U.aq h/2))=false:=Wo.2 ⟨k,fA.2 H,by simp[f]⟩;simp[lA,this]
def W8(H:au U.aq h%2=0)(j:∀i,i<I h->mW h (au U.aq h/2) i):lA h=(I (fx h (I h))==au U.aq h/2):=by have:=mB.2 λi f=>j i (fA.1 f);simp[lA,this,H]
abbrev ai4(id:Nat):Prop:=id=1344320128\/oY id=83
def ES(F:Nat)(h:af)(g:Nat)(z c3 c4 c6:a7)(L:aG)(v:V)(A:aG):Prop:=v=iI (lA h)/\dL ai4 L A/\(lA h->∃g1,A 1344320128=(g,some (.var (we F h z c3 c4 (.mN 5312256064 g1) c6)))/\A 5312256064=(g1,some (.map true (oZ h (I h)))))
def ahl(j:Nat):decide ((0:Int)<=(j:Int))=true:=xq J
def abe:IntKind.i64.wrap 0=0:=aa
def TK:IntKind.i64.wrap 1=1:=aa
def M4:((-1:Int)≥0)=False:=aH
def aAq:((0:Int)<= -1)=False:=aH
def aom{al:bU}(O:al.ok 1344320128)(ok:∀id,oY id=83->al.ok id){blk:aG}{g F:Nat}{h:af}{c3 c4 c6:a7}(hl:I h<=1000000)
  (B:blk 1344320128=(g,some (.var (we F h z c3 c4 y c6)))):∃v ak,jG S 83 [.one (.bh 1344320128 g 0)] al blk v ak/\ES F h g z c3 c4 c6 blk v ak:=by
 have o1:=ok 5312256064 rfl;have o2:=ok 5312448192 rfl;have o3:=ok 5312704640 rfl;refine oX apJ (jx rfl) ?_;have pc:=Tr F h hl;have dS:au U.aq h<=I h:=tH _ _;cases he:(((au U.aq h%2:Nat):Int)!=0)with
 |true=>
  have E:lA h=false:=by
   have:(au U.aq h%2==0)=false:=by simp at he |-;omega
   simp[lA,this]
  simp only[go_sem,Vx,B,Gg,RC pc,sq,jX,he,O];exact⟨by rw[E],dL.refl _ _,λx=>by rw[E]at x;cases x⟩
 |false=>
  have ab:au U.aq h%2=0:=by simp at he;omega
  simp only[go_sem,Vx,B,Gg,RC pc,sq,jX,he,O,o1];refine df (λk n ak=>n 0=.one (.bh 1344320128 g 0)/\n 3=aE (au U.aq h)/\n 25=.one (.p (od h))/\n 26=aE (I h)/\n 27=aE k/\
   ak 1344320128=(g,some (.var (we F h z c3 c4 (.mN 5312256064 ((blk 5312256064).1+1)) c6)))/\ak 5312256064=((blk 5312256064).1+1,some (.map true (oZ h k)))/\
   (∀i,i<k->mW h (au U.aq h/2) i)/\dL ai4 blk ak) 0 (I h) (bN _) ?_ ?_
  .simp only[go_sem,B];refine⟨rfl,rfl,λi x=>absurd x (nJ i),?_⟩;repeat(first|exact(dL.refl _ _)|refine dL.dN ?_ (by first|exact Or.inl rfl|exact Or.inr rfl) _)
  rintro k n ak hk ⟨h0,Z,T,R,N,B,bM,aD,Q⟩
  have wq:IntKind.i64.wrap ((au U.aq h/2:Nat):Int)=((au U.aq h/2:Nat):Int):=wrap_small J;by_cases M:k<I h
  .obtain⟨l,A⟩:=aM M;have u:=jh A;have X:((k:Int)<(I h:Int)):=J;have w1:=cE (n:=k) J;cases hc:(l.kind==2)with
   |false=>
    have L:l.aq=false:=hc;have hp:(l.kind !=2):=by simp[bne,hc]
    have j5:mW h (au U.aq h/2) k:=by simp[mW,A,L]
    simp only[go_sem,yP,h0,Z,T,R,N,B,bM,u,U.ps,X,hp,w1,o2];refine⟨M,?_,?_,?_⟩
    .rw[as6 A L]
    .intro i u;rcases wT.1 u with x|rfl
     .exact aD i x
     exact j5
    repeat(first|exact Q|refine dL.dN ?_ (by first|exact Or.inl rfl|exact Or.inr rfl) _)
   |true=>
    have L:l.aq:=hc;have hp:(l.kind !=2)=false:=by simp[bne,hc]
    cases r1:decide (l.id<1)with
    |true=>have ui:l.id<1:=D1 r1;have ac:¬1<=l.id:=J;have E:=H6 M (show mW h (au U.aq h/2) k=false by simp[mW,A,L,ac]);simp only[go_sem,yP,T,R,N,u,U.ps,X,hp,ui,o2];unfold ES;refine⟨by rw[E],?_,λx=>by rw[E]at x;cases x⟩;repeat(first|exact Q|refine dL.dN ?_ (by first|exact Or.inl rfl|exact Or.inr rfl) _)
    |false=>
     have ui:¬l.id<1:=xA r1;have ad:1<=l.id:=J;cases r2:decide (((au U.aq h/2:Nat):Int)<l.id)with
     |true=>have u4:((au U.aq h/2:Nat):Int)<l.id:=D1 r2;have am:¬l.id<=((au U.aq h/2:Nat):Int):=J;have E:=H6 M (show mW h (au U.aq h/2) k=false by simp only[mW,A,L,am];simp);simp only[go_sem,yP,Z,T,R,N,u,U.ps,X,hp,ui,u4,nq,jX,wq,o2];unfold ES;refine⟨by rw[E],?_,λx=>by rw[E]at x;cases x⟩;repeat(first|exact Q|refine dL.dN ?_ (by first|exact Or.inl rfl|exact Or.inr rfl) _)
     |false=>
      have u4:¬((au U.aq h/2:Nat):Int)<l.id:=xA r2;have ag:l.id<=((au U.aq h/2:Nat):Int):=J;have hf:=acK h k l.id;have oG:mW h (au U.aq h/2) k=((ig h k l.id l.over).isNone&&(match ig h k l.id (!l.over)with|some j=>xW h j==l.sign|none=>true)):=by simp only[mW,A,L,ad,ag,decide_true];rfl
      by_cases hm:l.id∈fx h k
      .rw[an hm]at hf;obtain⟨e0,ap⟩:=aM (show(fx h k).idxOf l.id<I (oZ h k) by simp[oZ];exact List.idxOf_lt_length_of_mem hm);have Ce:=aw6 A L hm;have Rw:rS h k l.id=[.int .i64 (Cy (ig h k l.id false)),.int .i64 (Cy (ig h k l.id true))]:=rfl;rw[Rw]at hf;cases H:l.over with
       |true=>
        cases f:ig h k l.id true with
        |some j=>have E:=H6 M (show mW h (au U.aq h/2) k=false by rw[oG,H,f];rfl);rw[f]at hf;simp only[Cy]at hf;simp only[go_sem,yP,h0,Z,T,R,N,B,bM,u,U.ps,X,hp,ui,u4,nq,jX,wq,hf,H,ahl,u9,uz,oj,Int.reduceNeg,O,o1,o2,o3];refine⟨aS,aS,?_⟩;unfold ES;refine⟨by rw[E],?_,λx=>by rw[E]at x;cases x⟩;repeat(first|exact Q|refine dL.dN ?_ (by first|exact Or.inl rfl|exact Or.inr rfl) _)
        |none=>
         obtain⟨j,m,D,HK,NW⟩:=aiO hk hm true f;have D:ig h k l.id false=some j:=D;have vW:=jh HK;have KH:xW h j=m.sign:=by simp[xW,HK]
         rw[f,D]at hf;simp only[Cy]at hf;cases ae:(m.sign==l.sign)with
         |false=>
          have iW:(m.sign !=l.sign):=by simp[bne,ae]
          have E:=H6 M (show mW h (au U.aq h/2) k=false by rw[oG,H,f];simp only[CW,D,KH,ae];rfl);simp only[go_sem,yP,h0,Z,T,R,N,B,bM,u,U.ps,X,hp,ui,u4,nq,jX,wq,hf,H,M4,vW,iW,abe,u9,uz,oj,Int.reduceNeg,Int.reduceSub,O,o1,o2,o3];refine⟨aS,aS,?_⟩;unfold ES;refine⟨by rw[E],?_,λx=>by rw[E]at x;cases x⟩;repeat(first|exact Q|refine dL.dN ?_ (by first|exact Or.inl rfl|exact Or.inr rfl) _)
         |true=>
          have iW:(m.sign !=l.sign)=false:=by simp[bne,ae]
          have j5:mW h (au U.aq h/2) k:=by rw[oG,H,f];simp only[CW,D,KH,ae];rfl
          have rR:=Tk A L (show ig h k l.id l.over=none by rw[H];exact f);have Y:=X9 A L;rw[H]at rR Y;rw[show ig h k l.id (!true)=some j from D]at Y;have Wi:rS h (k+1) l.id=[.int .i64 (j:Int),.int .i64 (k:Int)]:=by simp only[rS];rw[rR,show ig h (k+1) l.id false=some j from Y];rfl
          rw[Wi]at Ce;simp only[go_sem,yP,h0,Z,T,R,N,B,bM,u,U.ps,X,hp,w1,ui,u4,nq,jX,wq,hf,H,M4,vW,iW,abe,u9,uz,oj,Gk,Int.reduceNeg,Int.reduceSub,O,o1,o2,o3];refine⟨aS,aS,aS,?_⟩;refine⟨M,?_,?_,?_⟩
          .rw[Ce]
          .intro i u;rcases wT.1 u with x|rfl
           .exact aD i x
           exact j5
          repeat(first|exact Q|refine dL.dN ?_ (by first|exact Or.inl rfl|exact Or.inr rfl) _)
       |false=>
        cases f:ig h k l.id false with
        |some j=>have E:=H6 M (show mW h (au U.aq h/2) k=false by rw[oG,H,f];rfl);rw[f]at hf;simp only[Cy]at hf;simp only[go_sem,yP,h0,Z,T,R,N,B,bM,u,U.ps,X,hp,ui,u4,nq,jX,wq,hf,H,ahl,u9,uz,oj,Int.reduceNeg,O,o1,o2,o3];refine⟨aS,aS,?_⟩;unfold ES;refine⟨by rw[E],?_,λx=>by rw[E]at x;cases x⟩;repeat(first|exact Q|refine dL.dN ?_ (by first|exact Or.inl rfl|exact Or.inr rfl) _)
        |none=>
         obtain⟨j,m,D,HK,NW⟩:=aiO hk hm false f;have D:ig h k l.id true=some j:=D;have vW:=jh HK;have KH:xW h j=m.sign:=by simp[xW,HK]
         rw[f,D]at hf;simp only[Cy]at hf;cases ae:(m.sign==l.sign)with
         |false=>
          have iW:(m.sign !=l.sign):=by simp[bne,ae]
          have E:=H6 M (show mW h (au U.aq h/2) k=false by rw[oG,H,f];simp only[JX,D,KH,ae];rfl);simp only[go_sem,yP,h0,Z,T,R,N,B,bM,u,U.ps,X,hp,ui,u4,nq,jX,wq,hf,H,M4,vW,iW,TK,u9,uz,oj,Int.reduceNeg,Int.reduceSub,O,o1,o2,o3];refine⟨aS,aS,?_⟩;unfold ES;refine⟨by rw[E],?_,λx=>by rw[E]at x;cases x⟩;repeat(first|exact Q|refine dL.dN ?_ (by first|exact Or.inl rfl|exact Or.inr rfl) _)
         |true=>
          have iW:(m.sign !=l.sign)=false:=by simp[bne,ae]
          have j5:mW h (au U.aq h/2) k:=by rw[oG,H,f];simp only[JX,D,KH,ae];rfl
          have rR:=Tk A L (show ig h k l.id l.over=none by rw[H];exact f);have Y:=X9 A L;rw[H]at rR Y;rw[show ig h k l.id (!false)=some j from D]at Y;have Wi:rS h (k+1) l.id=[.int .i64 (k:Int),.int .i64 (j:Int)]:=by simp only[rS];rw[rR,show ig h (k+1) l.id true=some j from Y];rfl
          rw[Wi]at Ce;simp only[go_sem,yP,h0,Z,T,R,N,B,bM,u,U.ps,X,hp,w1,ui,u4,nq,jX,wq,hf,H,M4,vW,iW,TK,u9,uz,oj,Gk,Int.reduceNeg,Int.reduceSub,O,o1,o2,o3];refine⟨aS,aS,aS,?_⟩;refine⟨M,?_,?_,?_⟩
          .rw[Ce]
          .intro i u;rcases wT.1 u with x|rfl
           .exact aD i x
           exact j5
          repeat(first|exact Q|refine dL.dN ?_ (by first|exact Or.inl rfl|exact Or.inr rfl) _)
      rw[ai hm]at hf;have f:=ar2 hk hm;have FQ:=aqt A L hm;have j5:mW h (au U.aq h/2) k:=by rw[oG,f,f];rfl
      have rR:=Tk A L (f _);have Y:=X9 A L;rw[f]at Y;cases H:l.over
      case' true=>
       rw[H]at rR Y;have Rw:rS h (k+1) l.id=[.int .i64 (-1),.int .i64 (k:Int)]:=by simp only[rS];rw[rR,show ig h (k+1) l.id false=none from Y];rfl
      case' false=>
       rw[H]at rR Y;have Rw:rS h (k+1) l.id=[.int .i64 (k:Int),.int .i64 (-1)]:=by simp only[rS];rw[rR,show ig h (k+1) l.id true=none from Y];rfl
      all_goals
       rw[Rw]at FQ;simp only[go_sem,yP,h0,Z,T,R,N,B,bM,u,U.ps,X,hp,w1,ui,u4,nq,jX,wq,hf,H,M4,u9,uz,oj,Gk,Option.map_none,Int.reduceNeg,O,o1,o2,o3];refine⟨aS,aS,aS,?_⟩;refine⟨M,?_,?_,?_⟩
       .rw[FQ]
       .intro i u;rcases wT.1 u with x|rfl
        .exact aD i x
        exact j5
       repeat(first|exact Q|refine dL.dN ?_ (by first|exact Or.inl rfl|exact Or.inr rfl) _)
  have:k=I h:=J;subst this;have hr:=W8 ab aD;have iN:I (oZ h (I h))=I (fx h (I h)):=by simp[oZ]
  have hb:(((I (fx h (I h)):Nat):Int)==((au U.aq h/2:Nat):Int))=(I (fx h (I h))==au U.aq h/2):=by
   cases x:(I (fx h (I h))==au U.aq h/2)with
   |true=>simp at x |-;omega
   |false=>simp at x |-;omega
  simp only[go_sem,yP,adg,h0,Z,R,N,B,bM,ff,B2,Int.reduceNeg,iN,nq,jX,wq,hb,O,o1];exact⟨by rw[hr],Q,λ_=>⟨_,B,bM⟩⟩
theorem E6{p:U->Bool}{i:Nat}{l:U}(x:h[i]?=some l)(hp:p l):au p h=1↔ ∀j m,h[j]?=some m->p m->j=i:=by
 obtain⟨v,e⟩:=bd.1 x;have ae:h=h.take i++l::h.drop (i+1):=by rw[<-e,uA];simp
 have y:au p h=au p (h.take i)+(au p (h.drop (i+1))+1):=by
  conv=>lhs;rw[ae]
  simp[au,vz,hp]
 constructor
 .grind
 intro u;have Z:au p (h.take i)=0:=by
  refine QZ.2 λm f L=>?_;obtain⟨j,H⟩:=fX f;have n:j<i:=by have:=(bd.1 H).1;rw[jw]at this;omega
  rw[pR,an n]at H;have:=u j m H L;omega
 have z:au p (h.drop (i+1))=0:=by refine QZ.2 λm f L=>?_;obtain⟨j,H⟩:=fX f;rw[C0]at H;have:=u _ m H L;omega
 omega
def awR{p:U->Bool}(f:∀(i j:Nat) (l m:U),h[i]?=some l->h[j]?=some m->p l->p m->i=j):au p h<=1:=by
 by_cases H:au p h=0
 .omega
 have:=Nat.pos_of_ne_zero H;obtain⟨l,hl,hp⟩:=zm.1 this;obtain _:=fX hl
 grind [E6]
structure rB (F:Nat) (ls:af) (l:U):Prop where
 g0:0<=l.gate
 g1:l.gate<=(F:Int)
 r0:1<=l.ao
 r1:l.ao<=(aJ ls l.gate.toNat:Int)
theorem Gp{l:U}(hl:rB F h l)(H:rB F h m):eC h l=eC h m↔l.gate=m.gate/\l.ao=m.ao:=by
 obtain⟨j,n,y,L⟩:=hl;obtain⟨x,M,u,v⟩:=H;unfold eC;constructor
 .intro f;have sl:=lz h l.gate.toNat;have eH:=lz h m.gate.toNat;rcases EV l.gate.toNat m.gate.toNat with c|c|c
  .have:=wO (h:=h) (show l.gate.toNat+1<=m.gate.toNat by omega);omega
  .rw[c]at f;omega
  have:=wO (h:=h) (show m.gate.toNat+1<=l.gate.toNat by omega);omega
 grind
def asj{l:U}(hl:rB F h l)(H:rB F h m):BB l m↔eC h l<eC h m:=by
 obtain⟨f,j,x,L⟩:=hl;obtain⟨v,M,n,u⟩:=H;unfold eC BB;simp;have sl:=lz h l.gate.toNat;have eH:=lz h m.gate.toNat;rcases EV l.gate.toNat m.gate.toNat with c|c|c
 .have:=wO (h:=h) (show l.gate.toNat+1<=m.gate.toNat by omega);omega
 .rw[c];omega
 have:=wO (h:=h) (show m.gate.toNat+1<=l.gate.toNat by omega);omega
def Uy{l:U}(hl:rB F h l):eC h l<cX h (F+1):=by obtain⟨j,f,m,L⟩:=hl;unfold eC;have sl:=lz h l.gate.toNat;have:=wO (h:=h) (show l.gate.toNat+1<=F+1 by omega);omega
def Pf{i:Nat}{l:U}(H:h[i]?=some l)(hp:l.aw):xD h i↔1<=l.ao/\l.ao<=(aJ h l.gate.toNat:Int)/\ ∀j m,j<i->h[j]?=some m->m.aw->eC h m≠eC h l:=by
 simp[xD,H,hp,CW,JU,cN,jn,Cz,fA]
 grind [uo]
def D9(f:tM F h):AL h↔(∀l∈h,l.aw->rB F h l)/\ ∀(i j:Nat) (l m:U),h[i]?=some l->h[j]?=some m->l.aw->m.aw->eC h l=eC h m->i=j:=by
 unfold AL;rw[mB];constructor
 .intro v;refine⟨λl hl hp=>?_,λi j l m H n u L e=>?_⟩
  .obtain⟨i,H⟩:=fX hl;have:=(Pf H hp).1 (v i (fA.2 (bd.1 H).1));exact⟨(f l hl hp).1,(f l hl hp).2,this.1,this.2.1⟩
  rcases EV i j with c|c|c
  .exact absurd e (((Pf n L).1 (v j (fA.2 (bd.1 n).1))).2.2 i l c H u)
  .exact c
  exact absurd e.symm (((Pf H u).1 (v i (fA.2 (bd.1 H).1))).2.2 j m c n L)
 rintro⟨x,y⟩ i H
 obtain⟨l,hl⟩:=aM (fA.1 H);cases hp:l.aw with
 |false=>simp[xD,hl,hp]
 |true=>
  have f:=x l (aX hl) hp;refine(Pf hl hp).2 ⟨f.r0,f.r1,λj m n z L e=>?_⟩
  grind
def P9(g:Int)(h:0<=g)(l:U):rq g l=ir g.toNat l:=by unfold rq ir;rw[Ta h]
theorem kL{l:U}(hp:l.aw):d_ f l=false↔(((0<=l.gate/\l.gate<=f)/\l.id=0)/\l.sign=0)/\l.over=false:=by grind [U.aw,d_]
theorem Js{l:U}(hp:l.aw):Hh f h l↔d_ f l=false/\1<=l.ao/\l.ao<=(au (rq l.gate) h:Int)/\au (jQ l) h=1:=by grind [kL,Hh]
theorem VB{l:U}(hp:l.aw):jQ l m↔m.aw=true/\m.gate=l.gate/\m.ao=l.ao:=by grind [U.aw,jQ]
def axn:(∀l∈h,l.aw->Hh F h l)↔(∀l∈h,l.aw->d_ F l=false)/\AL h:=by
 constructor
 .intro B;have n:=λl hl hp=>((Js hp).1 (B l hl hp)).1;have x:=λl hl hp=>((kL hp).1 (n l hl hp)).1.1.1;refine⟨n,(D9 x).2 ⟨λl hl hp=>?_,λi j l m u v y L e=>?_⟩⟩
  .obtain⟨_,H,z,_⟩:=(Js hp).1 (B l hl hp);have:=x l hl hp;refine⟨this.1,this.2,H,?_⟩;have e:au (rq l.gate) h=aJ h l.gate.toNat:=by unfold aJ au;congr 1;funext m;exact P9 _ this.1 m
   omega
  have f:rB F h l:=by
   obtain⟨_,H,z,_⟩:=(Js y).1 (B l (aX u) y);have:=x l (aX u) y;have e:au (rq l.gate) h=aJ h l.gate.toNat:=by unfold aJ au;congr 1;funext m;exact P9 _ this.1 m
   exact⟨this.1,this.2,H,J⟩
  have N:rB F h m:=by
   obtain⟨_,H,z,_⟩:=(Js L).1 (B m (aX v) L);have:=x m (aX v) L;have e:au (rq m.gate) h=aJ h m.gate.toNat:=by unfold aJ au;congr 1;funext m;exact P9 _ this.1 m
   exact⟨this.1,this.2,H,J⟩
  grind [Gp,E6,VB,Js]
 rintro⟨n,D⟩ l hl hp
 obtain⟨A,H⟩:=(D9 (λl hl hp=>((kL hp).1 (n l hl hp)).1.1.1)).1 D;have f:=A l hl hp;have e:au (rq l.gate) h=aJ h l.gate.toNat:=by unfold aJ au;congr 1;funext m;exact P9 _ f.g0 m
 obtain⟨i,u⟩:=fX hl;refine(Js hp).2 ⟨n l hl hp,f.r0,by rw[e];exact f.r1,(E6 u ((VB hp).2 ⟨hp,rfl,rfl⟩)).2 λj m v ae=>?_⟩;obtain⟨L,M,E⟩:=(VB hp).1 ae;exact H j i m l v u L hp ((Gp (A m (aX v) L) f).2 ⟨M,E⟩)
def wM(id:Int)(o:Bool)(l:U):Bool:=l.aq&&(l.id==id&&l.over==o)
def MY(H:h[j]?=some m)(id:Int)(o:Bool):qx h id o j=wM id o m:=by simp[qx,wM,H]
theorem rH{id:Int}{o:Bool}{l:U}:wM id o l↔l.aq=true/\l.id=id/\l.over=o:=by unfold wM;simp
def E0(h:af):Prop:=∀(i j:Nat) (l m:U),h[i]?=some l->h[j]?=some m->l.aq->m.aq->l.id=m.id->i≠j->l.over≠m.over/\l.sign=m.sign
def Uh(h:af):Prop:=∀l∈h,l.aq->1<=l.id/\l.id<=((au U.aq h/2:Nat):Int)
def acQ{n k:Nat}{l:U}(f:h[k]?=some l)(H:l.aq):mW h n k↔(1<=l.id/\l.id<=(n:Int))/\ig h k l.id l.over=none/\ ∀j,ig h k l.id (!l.over)=some j->xW h j=l.sign:=by
 simp[mW,f,H,CW,JU,cN,jn,Option.isNone_iff_eq_none]
 grind
def GI:(∀k,k<I h->mW h (au U.aq h/2) k)↔Uh h/\E0 h:=by
 constructor
 .intro ab;have Y:∀ {k:Nat}{l:U},h[k]?=some l->l.aq->_:=λ{k l} A f=>(acQ A f).1 (ab k (bd.1 A).1);refine⟨λl hl f=>?_,?_⟩
  .obtain⟨i,H⟩:=fX hl;exact(Y H f).1
  have z:∀(i j:Nat) (l m:U),h[i]?=some l->h[j]?=some m->l.aq->m.aq->l.id=m.id->i<j->l.over≠m.over/\l.sign=m.sign:=by
   intro i j l m H v D F y E;obtain⟨_,hn,ae⟩:=Y v F;have X:l.over≠m.over:=by intro e;have:=Li hn E;rw[MY H,rH.2 ⟨D,y,e⟩]at this;cases this
   refine⟨X,?_⟩;have R:l.over= !m.over:=by revert X;cases l.over<;>cases m.over<;>simp
   cases u:ig h j m.id (!m.over)with
   |none=>have:=Li u E;rw[MY H,rH.2 ⟨D,y,R⟩]at this;cases this
   |some p=>
    obtain⟨Q,M⟩:=IV u;obtain⟨x,L,N,B,n⟩:=CI M;have:p=i:=by
     rcases EV p i with c|c|c
     .grind [Li]
     .exact c
     have T:(List.range j).find? (qx h m.id (!m.over))=some p:=u;rw[List.find?_range_eq_some]at T;have:=T.2.2 i c;rw[MY H,rH.2 ⟨D,y,R⟩]at this;cases this
    subst this;rw[H]at L;cases L
    simpa [xW,H]using(ae p u)
  intro i j l m H v D F y E;rcases Hs E with c|c
  .exact z i j l m H v D F y c
  have:=z j i m l v H F D y.symm c;exact⟨λe=>this.1 e.symm,this.2.symm⟩
 rintro⟨Z,O⟩ k A
 obtain⟨l,hl⟩:=aM A;cases f:l.aq with
 |false=>simp[mW,hl,f]
 |true=>
  refine(acQ hl f).2 ⟨Z l (aX hl) f,?_,λj v=>?_⟩
  .cases u:ig h k l.id l.over with
   |none=>rfl
   |some p=>obtain⟨Q,M⟩:=IV u;obtain⟨x,L,N,B,n⟩:=CI M;exact absurd n (O p k x l L hl N f B J).1
  obtain⟨Q,M⟩:=IV v;obtain⟨x,L,N,B,n⟩:=CI M;have:=(O j k x l L hl N f B J).2;simp[xW,L,this]
theorem avk(h:af):∀ids:bQ,ids.Nodup->(ids.map λid=>au (nP id) h).sum=au (λl=>l.aq&&ids.contains l.id) h:=by
 intro ids
 induction ids with
 |nil=>intro _;simp[au]
 |cons a ids f=>
  intro H;rw[qH]at H;rw[eQ,Ds,f H.2];refine(Qc ?_ ?_ h).symm
  .intro l;simp[nP,cN,cW,aeB,jn,dt]
   grind
  intro l;simp[nP,cN,cW,aeB,jn]
  grind
theorem P1{l:U}(hl:l∈h)(f:l.aq):l.id∈fx h (I h):=by obtain⟨i,H⟩:=fX hl;refine(Gw (ct _)).2 ⟨i,l.over,(bd.1 H).1,?_⟩;rw[MY H];exact rH.2 ⟨f,rfl,rfl⟩
def Y6(h:af):((fx h (I h)).map λid=>au (nP id) h).sum=au U.aq h:=by grind [avk,R4,Aa,P1]
theorem N5(id:Int)(h:af):au (nP id) h=au (wM id true) h+au (wM id false) h:=by
 refine Qc ?_ ?_ h
 .intro l;rw[rH,rH];simp[nP,cN,cW];cases l.over<;>simp
 grind [rH]
def Tl(id:Int)(o:Bool)(h:af):au (nP id) h=au (wM id o) h+au (wM id (!o)) h:=by
 rw[N5];cases o with
 |true=>rfl
 |false=>simp;omega
theorem Dg(u:E0 h)(id:Int)(o:Bool):au (wM id o) h<=1:=by refine awR λi j l m n f hl H=>?_;obtain⟨L,v,z⟩:=rH.1 hl;obtain⟨M,x,y⟩:=rH.1 H;refine Decidable.byContradiction λA=>?_;exact(u i j l m n f L M J A).1 (by grind)
theorem aiE{f:Int->Nat}:∀ids:bQ,(∀x∈ids,f x<=2)->(ids.map f).sum<=2*I ids:=by
 intro ids
 induction ids with
 |nil=>intro _;simp
 |cons a ids h=>grind
def aex{f:Int->Nat}:∀ids:bQ,(∀x∈ids,f x<=2)->(ids.map f).sum=2*I ids->∀x∈ids,f x=2:=by
 intro ids
 induction ids with
 |nil=>intro _ _ x H;cases H
 |cons a ids j=>
  intro h ae
  grind [aiE]
def azY{f:Int->Nat}:∀ids:bQ,(∀x∈ids,f x=2)->(ids.map f).sum=2*I ids:=by
 intro ids
 induction ids with
 |nil=>intro _;simp
 |cons a ids h=>grind
theorem Xo{l:U}(h:l.aq):jF l m↔m.aq=true/\m.id=l.id/\m.sign=l.sign/\m.over= !l.over:=by grind [U.aq,jF]
theorem Nh{l:U}(h:l.aq):d_ f l=false↔(l.gate=0/\l.ao=0)/\(l.sign !=1&&l.sign != -1)=false:=by grind [U.aq,d_]
def aeo{l:U}(H:l.aq):vZ h l↔d_ f l=false/\(1<=l.id/\l.id<=((au U.aq h/2:Nat):Int))/\au (jF l) h=1/\au (nP l.id) h=2:=by grind [Nh,vZ,ke]
def avi:(∀l∈h,l.aq->vZ h l)↔(∀l∈h,l.aq->d_ f l=false)/\lA h:=by
 have Z:=Y6 h;constructor
 .intro ab;have E:=λl hl H=>(aeo (f:=f) H).1 (ab l hl H);have hp:E0 h:=by
   intro i j l m n A F uL R gI;obtain⟨_,_,h3,h4⟩:=E l (aX n) F;have e1:=Tl l.id l.over h;have g1:0<au (wM l.id l.over) h:=zm.2 ⟨l,aX n,rH.2 ⟨F,rfl,rfl⟩⟩;obtain⟨x,y,Q⟩:=zm.1 (by show 0<au (jF l) h;omega);obtain⟨B,X,D,x4⟩:=(Xo F).1 Q;have u:0<au (wM l.id (!l.over)) h:=zm.2 ⟨x,y,rH.2 ⟨B,X,x4⟩⟩;have Y:l.over≠m.over:=by intro e;have:=(E6 n (rH.2 ⟨F,rfl,rfl⟩)).1 J j m A (rH.2 ⟨uL,R.symm,e.symm⟩);exact gI this.symm
   refine⟨Y,?_⟩;obtain⟨p,L⟩:=fX y;have:=(E6 A (rH.2 ⟨uL,R.symm,by revert Y;cases l.over<;>cases m.over<;>simp⟩)).1 J p x L (rH.2 ⟨B,X,x4⟩);subst this;rw[L]at A;cases A
   exact D.symm
  have N:∀id∈fx h (I h),au (nP id) h=2:=by intro id v;obtain⟨j,o,h1,M⟩:=(Gw (ct _)).1 v;obtain⟨m,hm,H,n,_⟩:=CI M;rw[<-n];exact(E m (aX hm) H).2.2.2
  rw[azY _ N]at Z;refine⟨λl hl H=>(E l hl H).1,?_⟩;rw[W8 J ((GI).2 ⟨λl hl H=>(E l hl H).2.1,hp⟩)];simp only[cW];omega
 rintro⟨hb,O⟩ l hl H
 unfold lA at O;simp only[cN,cW,mB,fA]at O;obtain⟨⟨R,y⟩,z⟩:=O;obtain⟨v,hp⟩:=GI.1 y;have T:∀id∈fx h (I h),au (nP id) h<=2:=λid _=>by rw[N5 id];have:=Dg hp id true;have:=Dg hp id false;omega
 have M:=aex _ T (by rw[Z,z];omega) l.id (P1 hl H);have e1:=Tl l.id l.over h;have b1:=Dg hp l.id l.over;have b2:=Dg hp l.id (!l.over);refine(aeo H).2 ⟨hb l hl H,v l hl H,?_,M⟩;obtain⟨i,n⟩:=fX hl;obtain⟨x,y,Q⟩:=zm.1 (by show 0<au (wM l.id (!l.over)) h;omega);obtain⟨p,L⟩:=fX y;obtain⟨B,X,D⟩:=rH.1 Q;have iF:p≠i:=by
  rintro rfl
  rw[n]at L;cases L;revert D;cases l.over<;>simp
 refine(E6 L ((Xo H).2 ⟨B,X,(hp p i x l L n B H X iF).2,D⟩)).2 λj m A hm=>?_
 grind [Xo,E6,rH]
theorem xj{l:U}(h:d_ f l=false):l.aw\/l.aq:=by grind [U.aw,U.aq,d_]
theorem nv{l:U}(hp:l.aw):l.aq=false:=by grind [U.aw,U.aq]
theorem aei{l:U}(hp:l.aw):Az f h l=Hh f h l:=by unfold U.aw at hp;simp[Az,hp]
theorem ahZ{l:U}(hp:l.aq):Az f h l=vZ h l:=by grind [U.aq,Az]
def G0:wy F h↔h.any (d_ F)=false/\AL h/\lA h:=by
 unfold wy;rw[mB,Cz];have E:=axn (F:=F) (h:=h);have u:=avi (f:=(F:Int)) (h:=h);constructor
 .intro m;obtain⟨j,n⟩:=E.1 λl hl hp=>by rw[<-aei hp];exact m l hl
  obtain⟨c1,z⟩:=u.1 λl hl H=>by rw[<-ahZ H];exact m l hl
  refine⟨λl hl=>?_,n,z⟩;rcases(λ{l:U} (hl:l∈h)=>ah3 (mB.2 m) (fX hl).choose_spec) hl with hp|H
  .rw[j l hl hp];simp
  rw[c1 l hl H];simp
 grind [xj,aei,ahZ]
def aqE{o:aC}(ae:o.Pairwise (· < ·))(A:∀x∈o,x<I o):∀(k:Nat) (h:k<I o),o[k]=k:=by
 rw[F_]at ae;have lo:∀(k:Nat) (h:k<I o),k<=o[k]:=by
  intro k
  induction k with
  |zero=>intro _;omega
  |succ k f=>grind
 have H:∀(d k:Nat) (h:k<I o),k+d+1=I o->o[k]<=k:=by
  intro d
  induction d with
  |zero=>grind
  |succ d f=>
   intro k h e;have:=f (k+1) J J
   grind
 intro k h;have:=lo k h;have:=H (I o-k-1) k h J;omega
def aoU{f:Nat->Nat}{p:Nat->Bool}{i:Nat}:∀ {o:aC},o.Pairwise (λa b=>f a<f b)->(∀x∈o,p x=decide (f x<f i))->(∀x∈o,f x≠f i)->
  (o.take (I (o.takeWhile p))++i::o.drop (I (o.takeWhile p))).Pairwise (λa b=>f a<f b):=by
 intro o
 induction o with
 |nil=>intro _ _ _;simp
 |cons a o m=>
  intro ae hp H;rw[jy]at ae;have j:=hp a I1;have n:=H a I1;by_cases A:f a<f i
  .rw[QX,an (by rw[j];simpa using A)];simp only[fG,RX,List.drop_succ_cons,ko];rw[jy]
   grind
  rw[QX,ai (by rw[j];simpa using A)];simp only[gk,List.take_zero,Kh,fz];rw[jy,jy];refine⟨λb h=>?_,ae⟩;rcases dt.1 h with rfl|h
  .omega
  have:=ae.1 b h;omega
def Fx{i:Nat}{l:U}(H:h[i]?=some l)(hp:l.aw):AU h i=eC h l:=by simp[AU,H,hp]
structure Co (F:Nat) (ls:af):Prop where
 eO:∀l∈ls,l.aw->rB F ls l
 inj:∀(i j:Nat) (l m:U),ls[i]?=some l->ls[j]?=some m->l.aw->m.aw->eC ls l=eC ls m->i=j
def ZF(n:Co F h):∀k,k<=I h->(o9 h k).Pairwise (λa b=>AU h a<AU h b):=by
 intro k
 induction k with
 |zero=>intro _;simp[o9]
 |succ k j=>
  intro v;have j:=j J;rw[C9];obtain⟨l,hl⟩:=aM (show k<I h by omega);unfold yX;rw[hl];simp only;cases hp:l.aw with
  |false=>simpa using j
  |true=>
   have H:=λ{x:Nat} (f:x∈o9 h k)=>(Y_ J).1 f;refine aoU j (λx f=>?_) (λx f e=>?_)
   .obtain⟨u,m,H,y⟩:=H f;rw[Fx H y,Fx hl hp];unfold Cm;rw[H,hl];have:=asj (n.eO m (aX H) y) (n.eO l (aX hl) hp)
    grind
   obtain⟨u,m,H,y⟩:=H f;rw[Fx H y,Fx hl hp]at e;have:=n.inj x k m l H hl y hp e;omega
def anJ:∀k,k<=I h->I (o9 h k)=au U.aw (h.take k):=by
 intro k
 induction k with
 |zero=>intro _;simp[o9,au]
 |succ k f=>grind [C9,yX,kB,ay6,sa]
theorem Br:I (ay h)=au U.aw h:=by have:=anJ (I h) (ct _);rwa[jz]at this
def AK(H:tM F h):cX h (F+1)=I (ay h):=by grind [Br,adQ,Aa]
def Co.tM(H:Co F h):tM F h:=λl hl hp=>⟨(H.eO l hl hp).g0,(H.eO l hl hp).g1⟩
theorem uh(n:Co F h){k i:Nat}(H:(ay h)[k]?=some i):∃l,h[i]?=some l/\l.aw/\eC h l=k:=by
 have ae:((ay h).map (AU h)).Pairwise (· < ·):=by rw[wE];exact ZF n (I h) (ct _)
 have A:∀x∈(ay h).map (AU h),x<I ((ay h).map (AU h)):=by intro x m;obtain⟨j,u,rfl⟩:=cD.1 m;obtain⟨l,hl,hp⟩:=qD.1 u;rw[Fx hl hp,bG,<- (AK n.tM)];exact Uy (n.eO l (aX hl) hp)
 obtain⟨D,f⟩:=bd.1 H;have:=aqE ae A k (by grind);rw[D2,f]at this;obtain⟨l,hl,hp⟩:=qD.1 (aX H);exact⟨l,hl,hp,by rw[<-Fx hl hp];exact this⟩
theorem Qi(f:Co F h){i:Nat}{l:U}(hl:h[i]?=some l)(hp:l.aw):(ay h)[eC h l]?=some i:=by have A:=Uy (f.eO l (aX hl) hp);rw[AK f.tM]at A;obtain⟨j,H⟩:=aM A;obtain⟨m,n,y,u⟩:=uh f H;rw[H,f.inj j i m l n hl y hp u]
def Gs(H:Co F h){i:Nat}{l:U}(hl:h[i]?=some l)(hp:l.aw):(ay h).idxOf i=eC h l:=by grind [uh,ab3,Qi]
def avu(n:Co F h):sU h (cX h (F+1)) (I h)=ay h:=by
 apply wh
 .rw[ac5,AK n.tM]
 intro k y u;simp[sU,D2,EM];obtain⟨l,hl,hp,v⟩:=uh n (re u);generalize(ay h)[k]=i at hl;unfold Le;have hf:(List.range (I h)).find? (uo h k)=some i:=by
  refine BY ((bd.1 hl).1) (λj x=>?_) ?_
  .cases H:uo h k j with
   |false=>rfl
   |true=>
    unfold uo at H;split at H
    .rename_i m f;simp at H;have:=n.inj j i m l f hl H.1 hp J;omega
    cases H
  rw[ajH hl hp];simp[v]
 rw[hf];rfl
def RU(z:lA h){i:Nat}{l:U}(hl:h[i]?=some l)(Q:l.aq):ig h (I h) l.id (!l.over)=some (gC h i)/\gC h i<I h:=by
 unfold lA at z;simp only[cN,cW,mB,fA]at z;obtain⟨⟨he,A⟩,n⟩:=z;obtain⟨ab,hp⟩:=GI.1 A;have B:∀id∈fx h (I h),au (nP id) h<=2:=λid _=>by grind [N5,Dg]
 have f:=aex _ B (by rw[Y6 h,n];omega) l.id (P1 (aX hl) Q);have e1:=Tl l.id l.over h;have b1:=Dg hp l.id l.over;have b2:=Dg hp l.id (!l.over);obtain⟨x,A,F⟩:=zm.1 (by show 0<au (wM l.id (!l.over)) h;omega);obtain⟨p,L⟩:=fX A;obtain⟨N,D,X⟩:=rH.1 F;have H:=(bd.1 L).1;have Y:p≠i:=by
  rintro rfl
  rw[hl]at L;cases L;revert X;cases l.over<;>simp
 have uniq:∀(j:Nat) (m:U),h[j]?=some m->m.aq->m.id=l.id->j≠i->j=p:=by intro j m u M E v;refine Decidable.byContradiction λaN=>?_;have Z:=(hp j i m l u hl M Q E v).1;have O:=(hp j p m x u L M N (by rw[E,D]) aN).1;rw[X]at O;revert Z O;cases m.over<;>cases l.over<;>simp
 have R:(List.range (I h)).find? (yI h i)=some p:=by
  refine BY H (λj u=>?_) ?_
  .cases y:yI h i j with
   |false=>rfl
   |true=>
    unfold yI at y;simp only[cN,bne_iff_ne,ne_eq]at y;obtain⟨T,f⟩:=y;split at f
    .rename_i m hm;simp only[cN,cW,hl,vp,nm]at f;have:=uniq j m hm f.1 f.2 T;omega
    cases f
  unfold yI;rw[L];simp[Y,N,hl,D]
 have ho:gC h i=p:=by unfold gC;rw[R];rfl
 rw[ho];refine⟨?_,H⟩;unfold ig;refine BY H (λj u=>?_) ?_
 .grind [qx]
 rw[MY L];exact F
abbrev sR(F:Nat)(ls:af):PV:=HX F ls (.sl (hJ (mF ls))) (.sl (bt (ay ls))) (.sl (bt (jZ ls (I ls)))) (.mp true (oZ ls (I ls))) (.sl (bt (gb ls F)))
structure fY (F:Nat) (ls:af):Prop where
 hl:I ls<=1000000
 ax:Co F ls
 cr:lA ls
 kinds:∀l∈ls,l.aw\/l.aq
def vB{a:Nat}(h:a<=9223372036854775807):IntKind.i64.wrap ((a:Int)-1)=(a:Int)-1:=by
 cases a with
 |zero=>decide
 |succ a=>rw[Af J h];omega
def adK{a n:Nat}(H:1<=n)(h:a+n<=9223372036854775807):IntKind.i64.wrap (((a:Int)-1)+(n:Int))=((a+n-1:Nat):Int):=by have e:((a:Int)-1)+(n:Int)=((a+n-1:Nat):Int):=J;rw[e];exact wrap_small J
def YC(F:Nat)(h:af)(i:Nat)(hl:I h<=1000000)(H:i<I h):aI S 136 [.one (.p (sR F h)),aE i] (jv (dx (I h) i true)):=by refine bR apr ?_;simp only[go_sem,aeT,qg (a:=i) J,dx]
def Ye(F:Nat)(h:af)(i:Nat)(hl:I h<=1000000)(v:i<I h):aI S 135 [.one (.p (sR F h)),aE i] (jv (dx (I h) i false)):=by refine bR asJ ?_;have m:=adK (a:=i) (n:=I h) J J;have f:=ve (i+I h-1) (I h);have u:=cJ (i+I h-1) (show 0<I h by omega);have j:=qg (a:=(i+I h-1)%I h) J;have E:=cE (n:=2*((i+I h-1)%I h)) J;have H:¬((I h:Int)=0):=J;simp only[go_sem,aeX,vB (a:=i) J,m,f,j,E,H,dx]
def Py{l:U}(H:h[v]?=some l)(hp:l.aw):(mF h)[v]?=some (dn h v):=by have:=(bd.1 H).1;simp[mF,sy this,dw,H,hp]
def avM{l:U}(H:h[v]?=some l)(hp:l.aw):(jZ h (I h))[v]?=some (eC h l):=by have:=(bd.1 H).1;simp[jZ,this,Fx H hp]
def fY.Sr(ok:fY F h){l:U}(j:h[v]?=some l)(f:(l.kind==2)=false):l.aw:=by
 rcases ok.kinds l (aX j)with hp|H
 .exact hp
 unfold U.aq at H;rw[f]at H;cases H
def aab(ok:fY F h)(d:Nat)(hd:d<2*I h+2*I (ay h)):aI S 99 [.one (.p (sR F h)),aE d] (jv (gU h (ay h) d)):=by
 have hl:=ok.hl;have iM:I (ay h)<=1000000:=nA (uW h (I h)) hl;have kI:∀x∈ay h,x<I h/\ ∃l,h[x]?=some l/\l.aw:=λx hx=>by obtain⟨l,h1,z⟩:=qD.1 hx;exact⟨(bd.1 h1).1,l,h1,z⟩
 have Q:IntKind.i64.wrap (2*(I h:Int))=((2*I h:Nat):Int):=qg J;unfold gU;by_cases ac:2*I h<=d
 .rw[an ac];refine bR abK ?_;have A:((2*I h:Nat):Int)<=(d:Int):=J;have m2:=W6 ac J;have M:=wrap_small (n:=(d-2*I h)/2) J;have hm:=cJ ((d-2*I h)/2+1) (show 0<I (ay h) by omega);have qR:¬((I (ay h):Int)=0):=J;obtain⟨u,hu⟩:=aM (h:=ay h) (k:=(d-2*I h)/2) J;have Bf:=iY hu;by_cases z:d%2=0
  .rw[an z];have R:=cE (n:=(d-2*I h)/2) J;have Z:(((d%2:Nat):Int)==0):=by simp[z]
   have L:=ve ((d-2*I h)/2+1) (I (ay h));obtain⟨v,B⟩:=aM hm;have Y:(ay h).getD (((d-2*I h)/2+1)%I (ay h)) 0=v:=by rw[dz,B];rfl
   rw[Y];obtain⟨j,l,O,Cc⟩:=kI v (aX B);have Eg:=iY B;have f:=sW (Py O Cc);have y:=YC F h v hl j;have pb:=Ye F h v hl j;cases D:dn h v;all_goals
    rw[D]at f;simp only[go_sem,La,Q,m2,M,R,L,A,Z,Bf,Eg,f,qR,sq,nq,jX,UQ,Yp,hI y,hI pb];exact⟨aS,aS⟩
  rw[ai z];have Z:(((d%2:Nat):Int)==0)=false:=by simp;omega
  have Y:(ay h).getD ((d-2*I h)/2) 0=u:=by rw[dz,hu];rfl
  rw[Y];obtain⟨j,l,O,Cc⟩:=kI u (aX hu);have f:=sW (Py O Cc);have y:=YC F h u hl j;have pb:=Ye F h u hl j;cases D:dn h u;all_goals
   rw[D]at f;simp only[go_sem,La,Q,m2,M,A,Z,Bf,f,sq,nq,jX,UQ,Yp,hI y,hI pb];exact aS
 rw[ai ac];have A:¬(((2*I h:Nat):Int)<=(d:Int)):=J;have M:=wrap_small (n:=d/2) J;have iU:¬((I h:Int)=0):=J;have qR:=cJ (d/2+1) (show 0<I h by omega);have R:=cE (n:=d/2) J;have L:=ve (d/2+1) (I h);have body:∀v:Nat,v<I h->∀m:Bool,v=(if m then(d/2+1)%I h else d/2)->(((d%2:Nat):Int)==0)=m->aI S 99 [.one (.p (sR F h)),aE d] (jv ((match h[v]? with
   |none=>0
   |some l=>if l.kind==2 then dx (I h) (gC h v) (m==(l.over==(l.sign==1)))
    else if dn h v==m then 2*I h+2*(ay h).idxOf v else 2*I h+2*(((ay h).idxOf v+I (ay h)-1)%I (ay h))+1:Nat):Int)):=by
  intro v B m N NQ;obtain⟨l,O⟩:=aM B;have E:=jh O;rw[O];simp only;refine bR abK ?_;cases T:(l.kind==2)with
  |true=>
   have hc:l.aq:=T;have dd:(l.kind==1)=false:=by simp only[cW]at T;rw[T];rfl
   obtain⟨H,Oe⟩:=RU ok.cr O hc;have hf:=acK h (I h) l.id;rw[an (P1 (aX O) hc)]at hf;have y:=YC F h (gC h v) hl Oe;have pb:=Ye F h (gC h v) hl Oe;cases ho:l.over
   case' true=>rw[ho]at H;have H:ig h (I h) l.id false=some (gC h v):=H
   case' false=>rw[ho]at H;have H:ig h (I h) l.id true=some (gC h v):=H
   all_goals
    simp only[rS,H]at hf;simp only[Cy]at hf;cases ae:(l.sign==1);all_goals
     cases m
     case' true=>have N:v=(d/2+1)%I h:=N
     case' false=>have N:v=d/2:=N
     all_goals
      rw[N]at E hf y pb |-;simp only[go_sem,La,Q,M,R,L,A,NQ,E,U.ps,iU,dd,ho,ae,sq,nq,jX,u9,uz,oj,hf,UQ,Yp,hI y,hI pb];exact⟨aS,aS⟩
  |false=>
   have hp:=ok.Sr O T;have dd:(l.kind==1):=hp;have f:=sW (Py O hp);have cA:=iY (avM O hp);have NV:=Gs ok.ax O hp;have ab:=Uy (ok.ax.eO l (aX O) hp);rw[AK ok.ax.tM]at ab;rw[NV];have Ww:¬((I (ay h):Int)=0):=J;have iN:=cJ (eC h l+I (ay h)-1) (show 0<I (ay h) by omega);have n1:=qg (a:=eC h l) J;have n2:=rX (a:=2*I h) (b:=2*eC h l) J;have n3:=vB (a:=eC h l) J;have n4:=adK (a:=eC h l) (n:=I (ay h)) J J;have n5:=ve (eC h l+I (ay h)-1) (I (ay h));have n6:=qg (a:=(eC h l+I (ay h)-1)%I (ay h)) J;have n7:=rX (a:=2*I h) (b:=2*((eC h l+I (ay h)-1)%I (ay h))) J
   have n8:=cE (n:=2*I h+2*((eC h l+I (ay h)-1)%I (ay h))) J;cases m
   case' true=>have N:v=(d/2+1)%I h:=N
   case' false=>have N:v=d/2:=N
   all_goals
    cases X:dn h v;all_goals
     rw[X]at f;rw[N]at E f cA;simp only[go_sem,La,Q,M,R,L,A,NQ,E,U.ps,iU,dd,sq,nq,jX,f,cA,n1,n2,n3,n4,n5,n6,n7,n8,Ww];exact aS
 have j:(if(d%2==0)=true then(d/2+1)%I h else d/2)<I h:=by
  split
  .exact qR
  omega
 have:=body _ j (d%2==0) rfl (by cases D:(d%2==0)<;>simp at D |- <;>omega);exact this
abbrev aO(ls:af):Nat->Nat:=gU ls (ay ls)
def auX(ok:fY F h){Q:gX}:
  ∀(f x:Nat) (dO:fT) (n:bj) (blk:aG),n 0=.one (.p (sR F h))->n 4=.one (.hsl 5376128064 1 1 0 (I dO))->blk 5376128064=(1,some (.arr 4 1 (hJ dO)))->
   n 7=aE x->x<I dO->I dO=2*I h+2*I (ay h)->y7 dO<f->
   (∀A m,A 0=n 0->A 4=n 4->A 5=n 5->A 24=n 24->A 25=n 25->m 5376128064=(1,some (.arr 4 1 (hJ (gG (aO h) f x dO).2)))->Q .normal A m)->
   W S .all (.loop Qg) (se 2 Q) n blk:=by
 have iM:=nA (uW h (I h)) ok.hl;have kI:∀x∈ay h,x<I h:=λx ab=>OD ab;intro f
 induction f with
 |zero=>intro x dO n blk _ _ _ _ _ _ ab;omega
 |succ f ih=>
  intro x dO n blk B j z D y hsl hu H;obtain⟨b,u⟩:=aM y;have E:=sW u;have sN:dO.getD x true=b:=by rw[dz,u];rfl
  unfold gG at H;rw[sN]at H;refine mP ?_;cases b with
  |true=>simp only[go_sem,Qg,j,z,D,y,E];refine H _ _ ?_ ?_ ?_ ?_ ?_ z;all_goals simp only[go_sem,j]
  |false=>
   have HW:=LK u;have R:=aab ok x J;have mu:=Sz (d:=x) kI (λv l L O=>qD.2 ⟨l,L,ok.Sr L O⟩) J;simp only[go_sem,Qg,B,j,z,D,y,E,IZ dO x true,X7,hI R];refine ih (gU h (ay h) x) (dO.set x true) _ _ ?_ ?_ ?_ ?_ (by simpa [hsl]using mu) (by simpa using hsl) J ?_
   .simp only[go_sem,B]
   .simp only[go_sem,j,q_]
   .simp only[go_sem]
   .simp only[go_sem]
   intro A m N Z Y T X M;refine H A m ?_ ?_ ?_ ?_ ?_ M
   .rw[N];simp only[go_sem]
   .rw[Z];simp only[go_sem]
   .rw[Y];simp only[go_sem]
   .rw[T];simp only[go_sem]
   rw[X];simp only[go_sem]
def azK(ok:fY F h):aI S 84 [.one (.p (sR F h))] (eh (fp h==au U.aw h+au U.aq h/2+2)):=by
 have hl:=ok.hl;have iM:I (ay h)<=I h:=uW h (I h);have Z:=qg (a:=I (ay h)) J;have m3:=rX (a:=2*I h) (b:=2*I (ay h)) J;have L:2*I h+2*I (ay h)<=140737488355328:=J;have Ej:List.replicate (2*I h+2*I (ay h)) [PV.bool false]=hJ (List.replicate (2*I h+2*I (ay h)) false):=aH;have iN:I (oZ h (I h))=au U.aq h/2:=by have:=ok.cr;unfold lA at this;simp only[cN,cW]at this;simp[oZ,this.2]
 have wW:au U.aq h<=I h:=tH _ _;refine bR auU ?_;simp only[go_sem,ajA,qg (a:=I h) J,Z,m3,L,Ej];refine⟨aS,?_⟩;generalize hN:2*I h+2*I (ay h)=N at L;refine df (λk n blk=>n 0=.one (.p (sR F h))/\n 4=.one (.hsl 5376128064 1 1 0 N)/\blk 5376128064=(1,some (.arr 4 1 (hJ (fi (aO h) N k).2)))/\
   n 5=aE (fi (aO h) N k).1.length/\n 24=aE N/\n 25=aE k) 0 N (bN _) ?_ ?_
 .simp only[go_sem];exact⟨rfl,rfl,rfl⟩
 rintro k n blk hk ⟨m,x,j,f,y,v⟩
 have H:=FZ (aO h) N k;have R:=K9 (aO h) N k;by_cases A:k<N
 .have B:((k:Int)<(N:Int)):=J;have z:=cE (n:=k) J;have ae:=yJ (aO h) N k;generalize di:fi (aO h) N k=st at H ae j f R;obtain⟨out,dO⟩:=st;simp only at H j f R;obtain⟨b,u⟩:=aM (h:=dO) (k:=k) J;have M:=sW u;unfold u6 at ae;have sN:dO.getD k true=b:=by rw[dz,u];rfl
  simp only[sN]at ae;cases b with
  |true=>simp only[go_sem,Q5,YF,m,x,j,f,y,v,A,B,M,z,ae]
  |false=>
   have ae:fi (aO h) N (k+1)=(out++[(gG (aO h) (N+1) k dO).1],(gG (aO h) (N+1) k dO).2):=by rw[ae,H];rfl
   have Oq:=IX dO;simp only[go_sem,Q5,x,j,f,y,v,A,B,M,cE (n:=I out) J];refine auX ok (N+1) k dO _ _ ?_ ?_ ?_ ?_ J J J ?_
   .simp only[go_sem,m]
   .simp only[go_sem,x,H]
   .simp only[go_sem,j]
   .simp only[go_sem]
   intro aF ak Q O E D X Y;simp only[go_sem,m,x,f,y,v]at Q O E D X;simp only[go_sem,YF,Q,O,E,D,X,Y,z,ae,A];simp
 have:k=N:=J;subst this;have he:fp h=(fi (aO h) k k).1.length:=by unfold fp fF aO;rw[hN]
 rw[<-he]at f;have T:IntKind.i64.wrap (((I (ay h)+au U.aq h/2:Nat):Int)+2)=((I (ay h)+au U.aq h/2+2:Nat):Int):=rX (b:=2) J;have u:(((fp h:Nat):Int)==((I (ay h)+au U.aq h/2+2:Nat):Int))=(fp h==au U.aw h+au U.aq h/2+2):=by
  rw[Br];cases ab:(fp h==au U.aw h+au U.aq h/2+2)with
  |true=>simp at ab |-;omega
  |false=>simp at ab |-;omega
 simp only[go_sem,Q5,acn,m,f,y,v,ff,B2,iN,rX (a:=I (ay h)) (b:=au U.aq h/2) J,T,u];exact aS
abbrev U4(id:Nat):Prop:=id=1344320128\/(oY id=49\/oY id=82\/oY id=83)
def aoC(F:Nat)(h:af)(g:Nat)(blk:aG):Prop:= ∃g1 u x f j,
 blk 1344320128=(g,some (.var (we F h (ae 5248128448 u (I h)) (ae 5249344128 j (I (ay h))) (ae 5248192448 x (I h)) (.mN 5312256064 f) (ae 5248064448 g1 (F+1)))))/\
 blk 5248064448=(g1,some (.arr 3 1 (bt (gb h F))))/\blk 5248128448=(u,some (.arr 4 1 (hJ (mF h))))/\blk 5248192448=(x,some (.arr 3 1 (bt (jZ h (I h)))))/\
 blk 5249344128=(j,some (.arr 3 1 (bt (ay h))))/\blk 5312256064=(f,some (.map true (oZ h (I h))))
def Pj(F:Nat)(h:af):Bool:=decide (h=[])||mA F h
def aeO(F:Nat)(h:af)(g:Nat)(L:aG)(v:V)(A:aG):Prop:=v=iI (Pj F h)/\dL U4 L A/\(h≠[]->mA F h->aoC F h g A)/\(h=[]->A 1344320128=L 1344320128)
def YN:S.sites 49=[49,82,83]:=ah
def ahM:S.sites 82=[82]:=ah
def ace:S.sites 83=[83]:=ah
def dL.TV{aY f:Nat->Prop}{a b:aG}(h:dL aY a b)(H:∀id,aY id->f id):dL f a b:=λid m=>h id λj=>m (H id j)
abbrev Dc(g:Nat):List dY:=[[.hfn 80 [.bh 1344320128 g 0] []],[.hfn 81 [.bh 1344320128 g 0] []],[.hfn 82 [.bh 1344320128 g 0] []],[.hfn 83 [.bh 1344320128 g 0] []],[.hfn 84 [.bh 1344320128 g 0] []]]
section
variable {al:bU} {Q:gX} {n:bj} {blk:aG} {g g0:Nat}
def UB(k:Nat){f:Nat}{D:PV}{r:aC}{b:Bool}(H:k<5)(hf:(Dc g)[k]?=some [.hfn f [.bh 1344320128 g 0] []])(v:S.shared f=false)(O:al.ok 3136192640)
  (j:n 22=.one (ae 3136192640 g0 5)) (m:n 23=aE 5) (y:n 24=aE k) (B:blk 3136192640=(g0,some (.kG 26 1 (Dc g))))
  (x:pO blk (.one (.bh 1344320128 g 0))=some (.one (.p D),r)) (h:al.iJ r) (hp:aI S f [.one (.p D)] (eh b))
  (z:b=false->∀A,A 2=iI false->Q .ret A blk)
  (E:b->∀A,A 22=.one (ae 3136192640 g0 5)->A 23=aE 5->A 24=aE ((k+1:Nat):Int)->W S al (.loop BI) Q A blk):W S al (.loop BI) Q n blk:=by
 refine mP ?_;have u:((k:Int)<5):=J;cases b with
 |false=>simp only[go_sem,BI,j,m,y,B,u,H,hf,v,O,↓x,ajE hp,h];exact z rfl _ (by simp only[go_sem])
 |true=>
  simp only[go_sem,BI,j,m,y,B,u,H,hf,v,O,↓x,ajE hp,h,cE (n:=k) J];refine E rfl _ ?_ ?_ ?_
  .simp only[go_sem,j]
  .simp only[go_sem,m]
  simp only[go_sem]
def ag2(k:Nat){f:Nat}{P:V->aG->Prop}{b:Bool}(D:k<5)(hf:(Dc g)[k]?=some [.hfn f [.bh 1344320128 g 0] []])(E:S.shared f)(O:al.ok 3136192640)
  (m:n 22=.one (ae 3136192640 g0 5)) (M:n 23=aE 5) (u:n 24=aE k) (B:blk 3136192640=(g0,some (.kG 26 1 (Dc g))))
  (H:al.holds (iH (S.ctx al) f [.one (.bh 1344320128 g 0)] blk)) (h:∃v A,jG S f [.one (.bh 1344320128 g 0)] (iH (S.ctx al) f [.one (.bh 1344320128 g 0)] blk) blk v A/\P v A)
  (L:∀v A,P v A->v=iI b)
  (x:b=false->∀v j A,P v A->j 2=iI false->Q .ret j A)
  (y:b->∀v j A,P v A->j 22=.one (ae 3136192640 g0 5)->j 23=aE 5->j 24=aE ((k+1:Nat):Int)->W S al (.loop BI) Q j A):W S al (.loop BI) Q n blk:=by
 refine mP ?_;have z:((k:Int)<5):=J;simp only[go_sem,BI,m,M,u,B,z,D,hf,E,O];refine wN H h λv A hp=>?_;have F:=L v A hp;subst F;cases b with
 |false=>simp only[go_sem];exact x rfl _ _ _ hp (by simp only[go_sem])
 |true=>
  simp only[go_sem,u,cE (n:=k) J];refine y rfl _ _ _ hp ?_ ?_ ?_
  .simp only[go_sem,m]
  .simp only[go_sem,M]
  simp only[go_sem]
end
def axW{al:bU}(n:al.ok 1344320128)(O:∀id,(oY id=49\/oY id=82\/oY id=83)->al.ok id)(f1:al.fs.contains 82)(f2:al.fs.contains 83)
  {blk:aG}{g F:Nat}{h:af} (hl:I h<=1000000) (hF:F<=1000000)
  (B:blk 1344320128=(g,some (.var (we F h (.p .nils) (.p .nils) (.p .nils) (.p .rU) (.p .nils))))):∃v j,jG S 49 [.one (.bh 1344320128 g 0)] al blk v j/\aeO F h g blk v j:=by
 have M:=O 3136192640 (.inl rfl);refine oX awZ (jx rfl) ?_;by_cases Z:h=[]
 .subst Z;have hz:(((0:Nat):Int)==0):=aa;simp only[go_sem,Tz,B,hz,n];exact⟨rfl,dL.refl _ _,λH=>absurd rfl H,λ_=>rfl⟩
 have FU:(((I h:Nat):Int)==0)=false:=by simp;omega
 obtain⟨l0,h0⟩:=aM (gA.2 Z);have uM:decide (h=[])=false:=by simp[Z]
 have pb:=anL F h l0 (.sl []) (.sl []) (.sl []) .rU (.sl []) hl h0;have Q:=G0 (F:=F) (h:=h);have fail:∀A j,dL U4 blk j->mA F h=false->A 2=iI false->se 0 (CM S al Y4 (tU al [(2,none)] (aeO F h g blk))) .ret A j:=λA j hk hv m=>by simp only[go_sem,m];exact⟨by rw[Pj,uM,hv];rfl,hk,λ_ H=>(by rw[hv]at H;cases H),λH=>absurd H Z⟩
 have am:wy F h=false->mA F h=false:=λH=>by simp[mA,H]
 have Xt:=λH=>am (by
  cases hq:wy F h with
  |false=>rfl
  |true=>exact absurd (Q.1 hq) H)
 simp only[go_sem,Tz,B,FU,n,M];have dd:dL U4 blk (dN blk 3136192640 ((blk 3136192640).1+1,some (.kG 26 1 (Dc g)))):=dL.dN (dL.refl _ _) (.inr (.inl rfl)) _;generalize E:dN blk 3136192640 ((blk 3136192640).1+1,some (.kG 26 1 (Dc g)))=z;rw[E]at dd;have L:z 3136192640=((blk 3136192640).1+1,some (.kG 26 1 (Dc g))):=by rw[<-E];simp only[go_sem]
 have B:z 1344320128=(g,some (.var (we F h (.p .nils) (.p .nils) (.p .nils) (.p .rU) (.p .nils)))):=by rw[<-E];simp only[go_sem,B]
 clear E;have vY:pO z (.one (.bh 1344320128 g 0))=some (.one (.p (HX F h (.sl []) (.sl []) (.sl []) .rU (.sl []))),[1344320128]):=by simp only[go_sem,B]
 have tZ:al.iJ [1344320128]:=by simp only[go_sem,n]
 refine UB 0 J rfl auo M (by simp only[go_sem]) (by simp only[go_sem];rfl) (by simp only[go_sem];rfl) L vY tZ (azn F h (.sl []) (.sl []) (.sl []) .rU (.sl []) hl ⟨rfl,rfl,rfl,rfl,rfl⟩) (λf A m=>fail A z dd (Xt λH=>by simp[H.1]at f) m) (λf A y R N=>?_);have E:h.any (d_ F)=false:=by simpa using f
 have mM:=λl hl=>by simpa using Cz.1 E l hl
 have hg:=λl hl hp=>((kL hp).1 (mM l hl)).1.1.1;refine UB 1 J rfl arb M y R N L vY tZ pb (λf A m=>fail A z dd (by simp only[mA,h0,f];rfl) m) (λag A y R N=>?_);clear f;have ad:pk z (.one (.bh 1344320128 g 0))=[1344320128]:=by rw[T1 B];simp[Vq]
 refine ag2 2 J rfl ah M y R N L ?_ (atz (BD (by simp[ad])) (λid H=>Ng (by rw[ahM,H];rfl)) hl hF hg B) (λv j H=>H.1) ?_ ?_
 .refine L3 ?_ ?_
  .show al.iJ ([V.one (.bh 1344320128 g 0)].map (pk z)).flatten=true;simp only[eQ,oO,ad,vo,Sw,i_];exact tZ
  show(S.sites 82).all al.fs.contains=true;rw[ahM];simp only[v_,zo,f1];rfl
 .intro f v A j hp m;exact fail A j (dd.trans (hp.2.1.TV λid H=>H.elim .inl λH=>.inr (.inr (.inl H)))) (Xt λH=>by rw[H.2.1]at f;cases f) m
 intro j5 v A aZ hp y R N;obtain⟨_,sP,uR⟩:=hp;obtain⟨g1,u,x,g5,B,bC,bW,pZ,T⟩:=uR j5;have kI:Co F h:=by obtain⟨a,b⟩:=(D9 hg).1 j5;exact⟨a,b⟩
 rw[avu kI]at T;rw[AK hg]at B;have L:aZ 3136192640=((blk 3136192640).1+1,some (.kG 26 1 (Dc g))):=by rw[<-L];exact sP _ aa
 have X:=dd.trans (sP.TV λid H=>H.elim .inl λH=>.inr (.inr (.inl H)));have oC:=O 5248064448 (.inr (.inl rfl));have oW:=O 5248128448 (.inr (.inl rfl));have oP:=O 5248192448 (.inr (.inl rfl));have oA:=O 5249344128 (.inr (.inl rfl));have oM:=O 5312256064 (.inr (.inr rfl));have Ol:pk aZ (.one (.bh 1344320128 g 0))=[1344320128,5248128448,5249344128,5248192448,5248064448]:=by rw[T1 B];simp only[eQ,oO,Vq,Hq bW,Hq T,Hq pZ,Hq bC,vo,Sw,fz,i_,ko]
 refine ag2 3 J rfl ah M y R N L ?_ (aom (BD (by simp[Ol])) (λid H=>Ng (by rw[ace,H];rfl)) hl B) (λv j H=>H.1) ?_ ?_
 .refine L3 ?_ ?_
  .show al.iJ ([V.one (.bh 1344320128 g 0)].map (pk aZ)).flatten=true;simp only[eQ,oO,Ol,vo,Sw,i_,Tx,XP,n,oC,oW,oP,oA,Dq]
  show(S.sites 83).all al.fs.contains=true;rw[ace];simp only[v_,zo,f2];rfl
 .intro f v A j hp m;exact fail A j (X.trans (hp.2.1.TV λid H=>H.elim .inl λH=>.inr (.inr (.inr H)))) (Xt λH=>by rw[H.2.2]at f;cases f) m
 intro fj v A lQ hp y R N;obtain⟨_,D,ap⟩:=hp;obtain⟨g4,B,bM⟩:=ap fj;have kp:∀id,oY id=82->lQ id=aZ id:=λid H=>D id (by
  rintro(e|e)
  .rw[e]at H;revert H;decide
  rw[e]at H;revert H;decide)
 rw[<-kp _ rfl]at bC bW pZ T;have ac:=X.trans (D.TV λid H=>H.elim .inl λH=>.inr (.inr (.inr H)));have pf:=azK ⟨hl,kI,fj,λl hl=>xj (mM l hl)⟩;have ab:mA F h=(fp h==au U.aw h+au U.aq h/2+2):=by
  have Y:(l0.kind==1)/\(au U.aw h%2==0):=by simpa using ag
  simp only[mA,h0,Y.1,Y.2,Q.2 ⟨E,j5,fj⟩,zB]
 have t1:List.take (I h) (hJ (mF h))=hJ (mF h):=fL (by simp[mF]);have t2:List.take (I (ay h)) (bt (ay h))=bt (ay h):=fL aH;have t3:List.take (I h) (bt (jZ h (I h)))=bt (jZ h (I h)):=fL (by simp[jZ]);have t4:List.take (F+1) (bt (gb h F))=bt (gb h F):=fL (by simp[gb]);have n1:I h<=I (mF h):=by simp[mF]
 have n3:I h<=I (jZ h (I h)):=by simp[jZ]
 have n4:F+1<=I (gb h F):=by simp[gb]
 have vY:pO lQ (.one (.bh 1344320128 g 0))=some (.one (.p (sR F h)),[1344320128,5248128448,5249344128,5248192448,5312256064,5248064448]):=by simp only[go_sem,abR,B,bW,T,pZ,bC,bM,Xc,t1,t2,t3,t4,n1,n3,n4]
 refine UB 4 J rfl anI M y R N (by rw[<-L];exact D _ aa) vY (by simp only[Tx,XP,n,oC,oW,oP,oA,oM,Dq]) pf (λf A m=>fail A lQ ac (by rw[ab];exact f) m) (λqM A y R N=>?_);have hv:mA F h:=by rw[ab];exact qM
 refine mP ?_;have n5:¬((((4+1:Nat)):Int)<5):=aa;simp only[go_sem,BI,Y4,R,N,n5];exact⟨by rw[Pj,uM,hv];rfl,ac,λ_ _=>⟨g1,u,x,g4,g5,B,bC,bW,pZ,T,bM⟩,λH=>absurd H Z⟩
end
end Go.Abs
