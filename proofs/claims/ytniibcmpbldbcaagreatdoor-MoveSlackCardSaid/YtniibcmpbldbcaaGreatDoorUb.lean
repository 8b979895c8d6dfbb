/-
  A slide keeps the faces.
-/
import Derived.Test.YtniibcmpbldbcaaGreatDoorUa
set_option linter.all false
set_option maxHeartbeats 16000000
namespace Go.Abs
theorem Bm(f:Bool)(x:aG):x.up=if f==x.p.d then fv f x else ke (iB f x):=by unfold aG.up fv iB;cases f<;>cases x.p.d<;>rfl
theorem AW(f:Bool)(x:aG):x.lo=if f==x.p.d then iB f x else ke (fv f x):=by unfold aG.lo fv iB;cases f<;>cases x.p.d<;>rfl
section
variable {F:Nat} {ls:List Let}
theorem Xa:∀(w:List Nat) (f:Fc),f.places.length<=(w.foldl (Fc.add F ls) f).places.length/\ ∀x∈w,2*ls.length<=x->(pX F ls ((x-2*ls.length)/2)).length<=(w.foldl (Fc.add F ls) f).places.length:=by
 intro w
 induction w with
 |nil=>intro f;exact⟨aZ _,fun x hx=>nomatch hx⟩
 |cons x w ih=>
  intro f;rw[uW];obtain⟨h1,h2⟩:=ih (Fc.add F ls f x);have h3:f.places.length<=(Fc.add F ls f x).places.length:=by
   unfold Fc.add;split
   .exact aZ _
   simp only[fc];omega
  refine⟨mU h3 h1,fun y hy hl=>?_⟩;rcases cT.1 hy with rfl|hy
  .refine mU ?_ h1;unfold Fc.add;rw[if_neg aa];simp only[fc];split<;>(try rw[xy])<;>omega
  exact h2 y hy hl
theorem aaq(ok:eP F ls){k u v:Nat}(hk:k+1<(aC ls).length)(hu:(aC ls).getD k 0=u)(hv:(aC ls).getD (k+1) 0=v){l m:Let}(hl:ls[u]?=some l)(hm:ls[v]?=some m)
  (pl:l.ay=true) (pm:m.ay=true) (hg:m.gate<=l.gate):l.gate=m.gate/\m.aA=l.aA+1:=by
 obtain⟨u',hu'⟩:=aI (ls:=aC ls) (k:=k) aa;obtain⟨v',hv'⟩:=aI hk;rw[cJ,hu',kA] at hu;rw[cJ,hv',kA] at hv;subst hu hv;obtain⟨l',e1,_,e2⟩:=yV ok.ax hu';obtain⟨m',e3,_,e4⟩:=yV ok.ax hv';rw[hl] at e1;cases e1;rw[hm] at e3;cases e3;have gl:=ok.ax.eQ l (aQ hl) pl;have gm:=ok.ax.eQ m (aQ hm) pm;obtain⟨l1,l2,l3,l4⟩:=gl;obtain⟨m1,m2,m3,m4⟩:=gm;unfold dJ at e2 e4;rcases Int.lt_or_eq_of_le hg with c|c
 .exfalso;have Az:=zg (ls:=ls) (show m.gate.toNat+1<=l.gate.toNat by omega);have hs:=sO ls m.gate.toNat;omega
 rw[c] at e4;exact⟨c.symm,aa⟩
theorem acC(g:ct F ls){w:List Nat}(hw:w∈fV (aO ls) (nD ls))(qW:(lA F ls w).places.length=1){x v:Nat}(hx:x∈w){fw:Bool}(sZ:x=gQ ls.length v fw){l:Let}(hl:ls[v]?=some l)(pl:l.ay=true):
  ∃u m y,y∈w/\ls[u]?=some m/\m.ay=true/\l.gate=m.gate/\((dn ls v=fw/\m.aA=l.aA+1/\y=dk ls.length u (!dn ls u))\/(dn ls v=(!fw)/\l.aA=m.aA+1/\y=dk ls.length u (dn ls u))):=by
 have ok:=g.ok;have mp:=maps ok;obtain⟨i1,i2⟩:=Fy ok hl pl;have hz:=Bo mp hw hx;rw[sZ,GS hl pl] at hz;by_cases cd:(dn ls v==fw)=true
 .rw[if_pos cd] at hz;have uK:(pX F ls ((aC ls).idxOf v)).length<=1:=by
   rw[<- qW];unfold lA;have:=(Xa (F:=F) (ls:=ls) w (Fc.new ls (w.headD 0))).2 _ hz aa;rwa[show(2*ls.length+2*(aC ls).idxOf v-2*ls.length)/2=(aC ls).idxOf v by omega] at this
  have hk:(aC ls).idxOf v+1<(aC ls).length:=by
   unfold pX at uK;simp only at uK;split at uK
   .assumption
   rw[fc,Bi,Bi] at uK;omega
  obtain⟨m,hm,pm⟩:=yU hk;have hg:m.gate<=l.gate:=by unfold pX at uK;simp only at uK;rw[if_pos hk,Bi,i2,fK hk,B3 hl,B3 hm] at uK;have:=(ok.ax.eQ l (aQ hl) pl).g0;have:=(ok.ax.eQ m (aQ hm) pm).g0;omega
  obtain⟨r1,r2⟩:=aaq ok hk i2 rfl hl hm pl pm hg;have Gs:=Bo mp hw hz;rw[Fh,fK hk] at Gs;exact⟨_,m,_,Gs,hm,pm,r1,.inl ⟨eq_of_beq cd,r2,rfl⟩⟩
 rw[if_neg cd] at hz;have AL:=dw ((aC ls).idxOf v+(aC ls).length-1) (show 0<(aC ls).length by omega);have hb:=xe i1;generalize ((aC ls).idxOf v+(aC ls).length-1)%(aC ls).length=k at hz AL hb;have uK:(pX F ls k).length<=1:=by rw[<- qW];unfold lA;have:=(Xa (F:=F) (ls:=ls) w (Fc.new ls (w.headD 0))).2 _ hz aa;rwa[show(2*ls.length+2*k+1-2*ls.length)/2=k by omega] at this
 have hk:k+1<(aC ls).length:=by
  unfold pX at uK;simp only at uK;split at uK
  .assumption
  rw[fc,Bi,Bi] at uK;omega
 rw[fK hk] at hb;obtain⟨m,hm,pm⟩:=yU AL;have hg:l.gate<=m.gate:=by unfold pX at uK;simp only at uK;rw[if_pos hk,Bi,fK hk,hb,i2,B3 hl,B3 hm] at uK;have:=(ok.ax.eQ l (aQ hl) pl).g0;have:=(ok.ax.eQ m (aQ hm) pm).g0;omega
 obtain⟨r1,r2⟩:=aaq ok hk rfl (by rw[hb];exact i2) hm hl pm pl hg;have Gs:=Bo mp hw hz;rw[Fg] at Gs;refine⟨_,m,_,Gs,hm,pm,r1.symm,.inr ⟨?_,r2,rfl⟩⟩;revert cd;cases dn ls v<;>cases fw<;>simp
theorem Qc{l:List Pc}{i:Nat}{r:Int}{p:Pc}(h:l[i]?=some p)(j:Nat):(gA l i r)[j]?=if j=i then some ⟨{p.l with aA:=r},p.d⟩ else l[j]? :=by
 have hl:=(aV.1 h).1;unfold gA;rw[cJ,h,kA,mT];by_cases c:j=i
 .subst c;rw[if_pos rfl,if_pos hl,if_pos rfl]
 rw[if_neg (Ne.symm c),if_neg c]
theorem VT{q:Pc->Bool}{l:List Pc}{i:Nat}{r:Int}{p:Pc}(h:l[i]?=some p)(hq:∀p:Pc,q ⟨{p.l with aA:=r},p.d⟩=q p):(gA l i r).countP q=l.countP q:=by unfold gA;rw[cJ,h,kA];have:=N3 (p:=q) (y:=⟨{p.l with aA:=r},p.d⟩) h;rw[hq] at this;show List.countP q (l.set i ⟨{p.l with aA:=r},p.d⟩)=_;omega
theorem apR(g:ct F ls){a b:Nat}(ha:a<ls.length)(hb:b<ls.length)(ju:a≠b){va vb pa pb:Nat}{la lb ma mb:Let}
  (ea:(pa=a/\va=nx ls a)\/(pa=nx ls a/\va=a)) (eb:(pb=b/\vb=nx ls b)\/(pb=nx ls b/\vb=b)) (yh:ls[va]?=some la) (Ax:ls[vb]?=some lb) (zC:ls[pa]?=some ma) (vj:ls[pb]?=some mb)
  (ca:la.aw=true) (cb:lb.aw=true) (qa:ma.ay=true) (qb:mb.ay=true) (hid:la.id=lb.id) (hv:va≠vb) (ID:tF F ls 1 [a,b] a=true):
  ∃w,w∈fV (aO ls) (nD ls)/\(lA F ls w).places.length=1/\ ∃d,d∈w/\d<2*ls.length/\aO ls d∈w/\aO ls d<2*ls.length/\(∀y,y∈w->y<2*ls.length->y=d\/y=aO ls d)/\
   ((d/2=a/\aO ls d/2=b/\oT ls.length d=pa/\oH ls.length d=va/\oT ls.length (aO ls d)=vb/\oH ls.length (aO ls d)=pb)\/(d/2=b/\aO ls d/2=a/\oT ls.length d=pb/\oH ls.length d=vb/\oT ls.length (aO ls d)=va/\oH ls.length (aO ls d)=pa)):=by
 have ok:=g.ok;obtain⟨w,hw,qW,hlen,hE⟩:=Rn g ha ID;obtain⟨da,v7,uD,za⟩:=hE a af;obtain⟨db,xK,u6,zb⟩:=hE b af;have aK:da≠db:=aa;have inD:∀d,d∈w->d<2*ls.length->d∈w.filter fun x=>decide (x<2*ls.length):=fun d h1 h2=>tv.2 ⟨h1,by simpa using h2⟩;have two:∀d,d∈w->d<2*ls.length->d=da\/d=db:=fun d h1 h2=>ae8 hlen (inD da v7 uD) (inD db xK u6) aK (inD d h1 h2);have ends:∀d e p v:Nat,d/2=e->((p=e/\v=nx ls e)\/(p=nx ls e/\v=e))->(oT ls.length d=p/\oH ls.length d=v)\/(oT ls.length d=v/\oH ls.length d=p):=fun d e p v h1 h2=>by
  unfold oT oH;rw[h1];show((if _ then e else nx ls e)=p/\(if _ then nx ls e else e)=v)\/((if _ then e else nx ls e)=v/\(if _ then nx ls e else e)=p);rcases h2 with ⟨rfl,rfl⟩|⟨rfl,rfl⟩<;>split
  .exact .inl ⟨rfl,rfl⟩
  .exact .inr ⟨rfl,rfl⟩
  .exact .inr ⟨rfl,rfl⟩
  exact .inl ⟨rfl,rfl⟩
 have pc:∀ {x y:Nat} {l m:Let},ls[x]?=some l->ls[y]?=some m->l.aw=true->m.ay=true->x≠y:=fun h1 h2 h3 h4 e=>by subst e;rw[h1] at h2;have:=rB h2;rw[this,mA h4] at h3;cases h3
 -- a dart that leads to the crossing goes on at the other visit
 have go:∀(d d' p v p' v':Nat) (l m l' m':Let),d∈w->d<2*ls.length->d'<2*ls.length->oT ls.length d=p->oH ls.length d=v->ls[v]?=some l->ls[p]?=some m->ls[v']?=some l'->ls[p']?=some m'->l.aw=true->m.ay=true->l'.aw=true->m'.ay=true->l.id=l'.id->v≠v'->(∀y,y∈w->y<2*ls.length->y=d\/y=d')->((oT ls.length d'=p'/\oH ls.length d'=v')\/(oT ls.length d'=v'/\oH ls.length d'=p'))->aO ls d=d'/\oT ls.length d'=v'/\oH ls.length d'=p':=by
  intro d d' p v p' v' l m l' m' d1 d2 d2' hT hH hl hm r9 Cp cl pm HP pm' hid hv tw en;obtain⟨s1,s2,_⟩:=HU g d2 (by rw[hH];exact hl) cl;rw[hH,JP g hl r9 cl HP hid hv] at s2;rcases tw _ (Bo (maps ok) hw d1) s1 with e|e
  .exfalso;rw[e,hT] at s2;exact pc r9 hm HP pm s2.symm
  rw[e] at s2;rcases en with ⟨e1,_⟩|⟨e1,e2⟩
  .exact absurd (s2.symm.trans e1) (pc r9 Cp HP pm')
  exact⟨e,e1,e2⟩
 have na:=ends da a pa va za ea;have nb:=ends db b pb vb zb eb;rcases na with ⟨t1,t2⟩|⟨t1,t2⟩
 .obtain⟨e1,e2,e3⟩:=go da db pa va pb vb la ma lb mb v7 uD u6 t1 t2 yh zC Ax vj ca qa cb qb hid hv two nb;refine⟨w,hw,qW,da,v7,uD,by rw[e1];exact xK,by rw[e1];exact u6,by rw[e1];exact two,.inl ⟨za,by rw[e1];exact zb,t1,t2,by rw[e1];exact e2,by rw[e1];exact e3⟩⟩
 · -- the dart of the first edge leads to the pass: the other one leads to the crossing
  obtain⟨u,m,y,y1,y2,y3,_,y4⟩:=acC g hw qW v7 (v:=pa) (fw:=bd da) (by rw[<- t2];exact Rx uD) zC qa;have hu:=(aV.1 y2).1;have yT:oT ls.length y=u/\y<2*ls.length:=by
   have key:∀f,oT ls.length (dk ls.length u f)=u/\dk ls.length u f<2*ls.length:=fun f=>⟨(N7 hu).1,by
    have:=yR hu (!f);rw[<- xk] at this;have:=vG this;rwa[vH] at this⟩
   rcases y4 with ⟨_,_,e⟩|⟨_,_,e⟩<;>rw[e]<;>exact key _
  have yb:y=db:=by
   rcases two y y1 yT.2 with e|e
   .exfalso;rw[e,t1] at yT;rw[<- yT.1] at y2;rw[yh] at y2;have:=rB y2;rw[<- this,kO ca] at y3;cases y3
   exact e
  have nb':oT ls.length db=pb/\oH ls.length db=vb:=by
   rcases nb with h|⟨h1,h2⟩
   .exact h
   exfalso;rw[yb,h1] at yT;rw[<- yT.1,Ax] at y2;have:=rB y2;rw[<- this,kO cb] at y3;cases y3
  obtain⟨e1,e2,e3⟩:=go db da pb vb pa va lb mb la ma xK u6 uD nb'.1 nb'.2 Ax vj yh zC cb qb ca qa hid.symm hv.symm (fun y h1 h2=>(two y h1 h2).symm) (.inr ⟨t1,t2⟩);refine⟨w,hw,qW,db,xK,u6,by rw[e1];exact v7,by rw[e1];exact uD,by rw[e1];exact fun y h1 h2=>(two y h1 h2).symm,.inr ⟨zb,by rw[e1];exact za,nb'.1,nb'.2,by rw[e1];exact e2,by rw[e1];exact e3⟩⟩
end
section
variable {F:Nat} {ls:List Let}
theorem PQ{e:Nat}(hn:0<ls.length)(he:e<ls.length)(h:(iX ls e).2.2=true):(((iX ls e).1=e/\(iX ls e).2.1=nx ls e)\/((iX ls e).1=nx ls e/\(iX ls e).2.1=e))/\(∃l,ls[(iX ls e).2.1]?=some l/\l.aw=true)/\ ∃m,ls[(iX ls e).1]?=some m/\m.ay=true:=by
 obtain⟨l,hl⟩:=aI he;obtain⟨m,hm⟩:=aI (ls:=ls) (k:=nx ls e) (dw _ hn);have e1:pA ls e=⟨l,iE ls e⟩:=iW (nL hl);have e2:pA ls (nx ls e)=⟨m,iE ls (nx ls e)⟩:=iW (nL hm);unfold iX at h ⊢;rw[e1,e2] at h ⊢;by_cases c:(l.kind==2)=true
 .rw[if_pos c] at h ⊢;exact⟨.inr ⟨rfl,rfl⟩,⟨l,hl,c⟩,m,hm,h⟩
 rw[if_neg c] at h ⊢;simp only[bQ] at h;exact⟨.inl ⟨rfl,rfl⟩,⟨m,hm,h.2⟩,l,hl,h.1⟩
theorem aab{f:Bool}{x y:aG}(h1:(fv f x).b=(fv f y).b)(h2:(iB f x).b=(iB f y).b):x.i.b=y.i.b/\x.o.b=y.o.b:=by
 rw[Jd,Jd] at h1;rw[Jy,Jy] at h2;cases f
 .exact⟨h2,h1⟩
 exact⟨h1,h2⟩
theorem Z9{f:Bool}{x:aG}(h:(fv f x).b=(iB f x).b):x.i.b=x.o.b:=by
 rw[Jd,Jy] at h;cases f
 .exact h.symm
 exact h
theorem aaa{f:Bool}{x:aG}(h:x.i.b=x.o.b):(fv f x).b=(iB f x).b:=by
 rw[Jd,Jy];cases f
 .exact h.symm
 exact h
theorem Xx{l:Let}{r:Int}(hp:l.ay=true)(h:de F l=false):de F {l with aA:=r}=false:=by have gE:({l with aA:=r}:Let).ay=true:=hp;rw[lU hp] at h;rw[lU gE];exact h
theorem XR(g:ct F ls){w:List Nat}(hw:w∈fV (aO ls) (nD ls))(qW:(lA F ls w).places.length=1){d d':Nat}(hd:d∈w)(ld:d<2*ls.length)(F0:d'∈w)(Gz:d'<2*ls.length)(qV:aO ls d=d')(two:∀y,y∈w->y<2*ls.length->y=d\/y=d')
  {lp lv lw lq:Let} (vp:ls[oT ls.length d]?=some lp) (og:ls[oH ls.length d]?=some lv) (tW:ls[oT ls.length d']?=some lw) (wQ:ls[oH ls.length d']?=some lq) (pp:lp.ay=true) (cv:lv.aw=true) (cw:lw.aw=true) (pq:lq.ay=true)
  {P:List Pc} (B8:P.length=ls.length) (sU:∀q:Let->Bool,(∀(l:Let) (r:Int),q {l with aA:=r}=q l)->au q (P.map Pc.l)=au q ls)
  (hP:oT ls.length d≠oH ls.length d'->P[oT ls.length d]?=(pieces ls)[oH ls.length d]? /\P[oH ls.length d]?=some ⟨{lp with aA:=lq.aA},iE ls (oT ls.length d)⟩/\P[oT ls.length d']?=some ⟨{lq with aA:=lp.aA},iE ls (oH ls.length d')⟩/\P[oH ls.length d']?=(pieces ls)[oT ls.length d']? /\
   ∀i,i≠oT ls.length d->i≠oH ls.length d->i≠oT ls.length d'->i≠oH ls.length d'->P[i]?=(pieces ls)[i]?):Cert F P:=by
 have ok:=g.ok;have cz:=g.cz;have hn:0<ls.length:=iR.2 g.ne;have t1:=MV g ld;have t2:=MV g Gz;have h1:=Jw g ld;have h2:=Jw g Gz
 -- the neighbours on the NU
 obtain⟨u,m,y,y1,y2,y3,iU,y4⟩:=acC g hw qW F0 (v:=oH ls.length d') (fw:=bd d') (Rx Gz) wQ pq;have hu:=(aV.1 y2).1;have yT:∀f,oT ls.length (dk ls.length u f)=u/\bd (dk ls.length u f)=f/\dk ls.length u f<2*ls.length:=fun f=>⟨(N7 hu).1,(N7 hu).2,by
  have:=yR hu (!f);rw[<- xk] at this;have:=vG this;rwa[vH] at this⟩
 have yd:y=d:=by
  have hyt:oT ls.length y=u/\y<2*ls.length:=by rcases y4 with ⟨_,_,e⟩|⟨_,_,e⟩<;>rw[e]<;>exact⟨(yT _).1,(yT _).2.2⟩
  rcases two y y1 hyt.2 with e|e
  .exact e
  exfalso;rw[e] at hyt;rw[<- hyt.1,tW] at y2;have:=rB y2;rw[<- this,kO cw] at y3;cases y3
 subst yd;have hu':oT ls.length y=u:=by rcases y4 with ⟨_,_,e⟩|⟨_,_,e⟩<;>rw[e]<;>exact(yT _).1
 subst hu';rw[vp] at y2;cases y2
 -- cR: ek the NU
 obtain⟨cR,hR⟩:∃cR:Bool,(cR=true/\dn ls (oH ls.length d')=bd d'/\lp.aA=lq.aA+1/\bd y= !dn ls (oT ls.length y))\/(cR=false/\dn ls (oH ls.length d')=(!bd d')/\lq.aA=lp.aA+1/\bd y=dn ls (oT ls.length y)):=by
  rcases y4 with ⟨e1,e2,e3⟩|⟨e1,e2,e3⟩
  .exact⟨true,.inl ⟨rfl,e1,e2,(congrArg bd e3).trans (yT _).2.1⟩⟩
  exact⟨false,.inr ⟨rfl,e1,e2,(congrArg bd e3).trans (yT _).2.1⟩⟩
 clear y4 yT y1 y3 hu;have kK:lp.aA≠lq.aA:=by rcases hR with ⟨_,_,h,_⟩|⟨_,_,h,_⟩<;>omega
 have npq:oT ls.length y≠oH ls.length d':=fun e=>by rw[e,wQ] at vp;have:=rB vp;rw[this] at kK;exact kK rfl
 obtain⟨pT,pH,pT',pH',pU⟩:=hP npq;clear hP;obtain⟨_,o1,q1,k1⟩:=HU g ld og cv;rw[qV] at o1 q1 k1;rw[IG ld,JY Gz] at k1;obtain⟨xa,xb,xc,xd⟩:=k1;simp only[if_true] at xa xb xc xd;have pc:∀ {x y:Nat} {l m:Let},ls[x]?=some l->ls[y]?=some m->l.aw=true->m.ay=true->x≠y:=fun h1 h2 h3 h4 e=>by subst e;rw[h1] at h2;have:=rB h2;rw[this,mA h4] at h3;cases h3
 have nvw:oH ls.length y≠oT ls.length d':=by intro e;obtain⟨_,m,hm,_,_,mo,_⟩:=pW ok.cr og cv;rw[<- o1,<- e,og] at hm;have:=rB hm;rw[<- this] at mo;revert mo;cases lv.over<;>simp
 have nvp:=pc og vp cv pp;have nvq:=pc og wQ cv pq;have nwp:=pc tW vp cw pp;have nwq:=pc tW wQ cw pq
 -- ends of the edges
 have ee:∀d:Nat,(oT ls.length d=d/2/\oH ls.length d=nx ls (d/2))\/(oT ls.length d=nx ls (d/2)/\oH ls.length d=d/2):=fun d=>by
  unfold oT oH nx;split
  .exact .inl ⟨rfl,rfl⟩
  exact .inr ⟨rfl,rfl⟩
 have apart:y/2≠d'/2/\y/2≠nx ls (d'/2)/\nx ls (y/2)≠d'/2/\nx ls (y/2)≠nx ls (d'/2)/\y/2≠nx ls (y/2)/\d'/2≠nx ls (d'/2):=by
  rcases ee y with ⟨a1,a2⟩|⟨a1,a2⟩<;>rcases ee d' with ⟨b1,b2⟩|⟨b1,b2⟩
  .rw[<- a2,<- a1,<- b2,<- b1];exact⟨nwp.symm,npq,nvw,nvq,nvp.symm,nwq⟩
  .rw[<- a2,<- a1,<- b1,<- b2];exact⟨npq,nwp.symm,nvq,nvw,nvp.symm,nwq.symm⟩
  .rw[<- a1,<- a2,<- b2,<- b1];exact⟨nvw,nvq,nwp.symm,npq,nvp,nwq⟩
  rw[<- a1,<- a2,<- b1,<- b2];exact⟨nvq,nvw,npq,nwp.symm,nvp,nwq.symm⟩
 let tau:=(oK ls y).l
 let tI:=fv (bd y) (dA ls (oT ls.length y))
 let hO:=iB (bd d') (dA ls (oH ls.length d'))
 let oth:=(iB (bd y) (dA ls (oH ls.length y))).r
 let K1:dz:=⟨hO.r,tau,tI.b⟩
 let K2:dz:=⟨tI.r,tau,hO.b⟩
 let sd:Nat->dz:=fun j=>if j=y/2 then uo (bd y) K1 else if j=d'/2 then uo (bd d') K2 else kS ls j
 have sd1:sd (y/2)=uo (bd y) K1:=if_pos rfl;have sd2:sd (d'/2)=uo (bd d') K2:=by show(if _ then _ else _)=_;rw[if_neg apart.1.symm,if_pos rfl]
 have sdn:∀j,j≠y/2->j≠d'/2->sd j=kS ls j:=fun j h1 h2=>by show(if _ then _ else _)=_;rw[if_neg h1,if_neg h2]
 have prev:∀i,i<ls.length->i≠nx ls (y/2)->i≠nx ls (d'/2)->sd ((i+ls.length-1)%ls.length)=kS ls ((i+ls.length-1)%ls.length):=fun i hi n1 n2=>sdn _ (fun h=>n1 (BI hi h)) (fun h=>n2 (BI hi h))
 obtain⟨z1,z2,z3,z4,z5,z6⟩:=apart;have G1:=KT (P:=P) B8 ld sd1 (prev _ aa z5 z2) (sdn _ z5.symm z3);have G2:=KT (P:=P) B8 Gz sd2 (prev _ aa z3.symm z6) (sdn _ z2.symm z6.symm);have un:∀i,i<ls.length->i≠oT ls.length y->i≠oH ls.length y->i≠oT ls.length d'->i≠oH ls.length d'->bZ P sd i=dA ls i:=fun i hi n1 n2 n3 n4=>by
  have a1:i≠y/2/\i≠nx ls (y/2):=by
   rcases ee y with ⟨a1,a2⟩|⟨a1,a2⟩
   .rw[<- a2,<- a1];exact⟨n1,n2⟩
   rw[<- a1,<- a2];exact⟨n2,n1⟩
  have a2:i≠d'/2/\i≠nx ls (d'/2):=by
   rcases ee d' with ⟨a1,a2⟩|⟨a1,a2⟩
   .rw[<- a2,<- a1];exact⟨n3,n4⟩
   rw[<- a1,<- a2];exact⟨n4,n3⟩
  exact YN B8 hi (pU i n1 n2 n3 n4) (prev i hi a1.2 a2.2) (sdn i a1.1 a2.1)
 have six:∀i,i<ls.length->(i=oT ls.length y\/i=oH ls.length y\/i=oT ls.length d'\/i=oH ls.length d')\/(bZ P sd i=dA ls i/\i≠oT ls.length y/\i≠oH ls.length y/\i≠oT ls.length d'/\i≠oH ls.length d'):=fun i hi=>by
  rcases Classical.em (i=oT ls.length y\/i=oH ls.length y\/i=oT ls.length d'\/i=oH ls.length d') with h|h
  .exact .inl h
  simp only[not_or] at h;exact .inr ⟨un i hi h.1 h.2.1 h.2.2.1 h.2.2.2,h⟩
 have gp:∀ {i:Nat} {p:Pc},P[i]?=some p->(bZ P sd i).p=p:=fun {i p} h=>by show P.getD i _=_;rw[cJ,h];rfl
 have kT:(bZ P sd (oT ls.length y)).k=lv:=congrArg Pc.l (gp (pT.trans (nL og)));have kH:(bZ P sd (oH ls.length y)).k={lp with aA:=lq.aA}:=congrArg Pc.l (gp pH);have w7:(bZ P sd (oT ls.length d')).k={lq with aA:=lp.aA}:=congrArg Pc.l (gp pT');have EE:(bZ P sd (oH ls.length d')).k=lw:=congrArg Pc.l (gp (pH'.trans (nL tW)));have dH:(bZ P sd (oH ls.length y)).p.d=(dA ls (oT ls.length y)).p.d:=by rw[gp pH];rfl
 have BS:(bZ P sd (oT ls.length d')).p.d=(dA ls (oH ls.length d')).p.d:=by rw[gp pT'];rfl
 have okv:=(DF g h1).cb (by rw[dU og];exact cv);have okw:=(DF g t2).cb (by rw[dU tW];exact cw);have bv:=aaa (f:=bd y) okv;have bw:=aaa (f:=bd d') okw;rw[IG ld] at bv;rw[JY Gz] at bw;have bp:=JY (ls:=ls) ld;have bq:=IG (ls:=ls) Gz;have gdp:=ok.ax.eQ lp (aQ vp) pp;have gdq:=ok.ax.eQ lq (aQ wQ) pq;have plp:=Oe g vp pp;have plq:=Oe g wQ pq;obtain⟨p1,p2,p3,p4⟩:=plp;obtain⟨p5,p6,p7,p8⟩:=plq;rw[dU vp] at p1 p2 p3 p4;rw[dU wQ] at p5 p6 p7 p8;have mv:=Od g vp pp;have Cd:=Od g wQ pq;rw[Bm (bd y)] at p1 p2;rw[AW (bd y)] at p3 p4;rw[Bm (bd d')] at p5 p6;rw[AW (bd d')] at p7 p8;rw[mv,bp] at p1 p2 p3 p4;rw[Cd,bq] at p5 p6 p7 p8;have cgq:cg ls lq.gate.toNat=cg ls lp.gate.toNat:=by rw[iU]
 obtain⟨gp0,gp1,gp2,gp3⟩:=gdp;obtain⟨gq0,gq1,gq2,gq3⟩:=gdq;rw[cgq] at gq3;rw[iU] at p5 p6 p7 p8;obtain⟨r,T',B',dI,nH,km,hT,pl1,pl2,vh⟩:∃(r:Nat) (T' B':Nat->Nat->Nat),1<=r/\r<cg ls lp.gate.toNat/\((lp.aA=(r:Int)/\lq.aA=(r:Int)+1)\/(lq.aA=(r:Int)/\lp.aA=(r:Int)+1))/\(∀k j,¬(k=lp.gate.toNat/\j=r)->T' k j=TF ls k j/\B' k j=BF ls k j)/\
   A6 T' B' (bZ P sd (oH ls.length y))/\A6 T' B' (bZ P sd (oT ls.length d'))/\tI.l=hO.l:=by
  rcases hR with ⟨_,fp,ak1,dD⟩|⟨_,fp,ak1,dD⟩
  .have f1:(bd y==dn ls (oT ls.length y))=false:=by rw[dD];cases dn ls (oT ls.length y)<;>rfl
   have f2:(bd d'==dn ls (oH ls.length d'))=true:=by rw[fp];cases bd d'<;>rfl
   rw[f1] at p1 p2 p3 p4;rw[f2] at p5 p6 p7 p8;simp only[eY,if_false,if_true] at p1 p2 p3 p4 p5 p6 p7 p8;have er:lp.aA.toNat=lq.aA.toNat+1:=aa;rw[er] at p1 p2 p3 p4;rw[Hl] at p1 p3;refine⟨lq.aA.toNat,fun k j=>if k=lp.gate.toNat/\j=lq.aA.toNat then oth else TF ls k j,fun k j=>if k=lp.gate.toNat/\j=lq.aA.toNat then tau else BF ls k j,aa,aa,.inr ⟨aa,aa⟩,fun k j h=>⟨if_neg h,if_neg h⟩,?_,?_,?_⟩
   .constructor
    .rw[kH,Bm (bd y),dH,mv,f1];show(ke (iB (bd y) (bZ P sd (oH ls.length y)))).r=if lp.gate.toNat=lp.gate.toNat/\lq.aA.toNat-1=lq.aA.toNat then oth else TF ls lp.gate.toNat (lq.aA.toNat-1);rw[if_neg aa,G1.2.2.2];exact xd.symm.trans p5
    .rw[kH,Bm (bd y),dH,mv,f1];show(ke (iB (bd y) (bZ P sd (oH ls.length y)))).l=if lp.gate.toNat=lp.gate.toNat/\lq.aA.toNat=lq.aA.toNat then oth else TF ls lp.gate.toNat lq.aA.toNat;rw[if_pos ⟨rfl,rfl⟩,G1.2.2.2];rfl
    .rw[kH,AW (bd y),dH,mv,f1];show(ke (fv (bd y) (bZ P sd (oH ls.length y)))).r=if lp.gate.toNat=lp.gate.toNat/\lq.aA.toNat-1=lq.aA.toNat then tau else BF ls lp.gate.toNat (lq.aA.toNat-1);rw[if_neg aa,G1.2.2.1];exact p7
    rw[kH,AW (bd y),dH,mv,f1];show(ke (fv (bd y) (bZ P sd (oH ls.length y)))).l=if lp.gate.toNat=lp.gate.toNat/\lq.aA.toNat=lq.aA.toNat then tau else BF ls lp.gate.toNat lq.aA.toNat;rw[if_pos ⟨rfl,rfl⟩,G1.2.2.1];rfl
   .constructor
    .rw[w7,Bm (bd d'),BS,Cd,f2];show(fv (bd d') (bZ P sd (oT ls.length d'))).r=if lq.gate.toNat=lp.gate.toNat/\lp.aA.toNat-1=lq.aA.toNat then oth else TF ls lq.gate.toNat (lp.aA.toNat-1);rw[if_pos ⟨by rw[iU],aa⟩,G2.1];exact xb.symm
    .rw[w7,Bm (bd d'),BS,Cd,f2];show(fv (bd d') (bZ P sd (oT ls.length d'))).l=if lq.gate.toNat=lp.gate.toNat/\lp.aA.toNat=lq.aA.toNat then oth else TF ls lq.gate.toNat lp.aA.toNat;rw[if_neg aa,G2.1,iU,er];exact xc.trans p2
    .rw[w7,AW (bd d'),BS,Cd,f2];show(iB (bd d') (bZ P sd (oT ls.length d'))).r=if lq.gate.toNat=lp.gate.toNat/\lp.aA.toNat-1=lq.aA.toNat then tau else BF ls lq.gate.toNat (lp.aA.toNat-1);rw[if_pos ⟨by rw[iU],aa⟩,G2.2.1]
    rw[w7,AW (bd d'),BS,Cd,f2];show(iB (bd d') (bZ P sd (oT ls.length d'))).l=if lq.gate.toNat=lp.gate.toNat/\lp.aA.toNat=lq.aA.toNat then tau else BF ls lq.gate.toNat lp.aA.toNat;rw[if_neg aa,G2.2.1,iU,er];exact p4
   exact p3.trans p8.symm
  have f1:(bd y==dn ls (oT ls.length y))=true:=by rw[dD];cases dn ls (oT ls.length y)<;>rfl
  have f2:(bd d'==dn ls (oH ls.length d'))=false:=by rw[fp];cases bd d'<;>rfl
  rw[f1] at p1 p2 p3 p4;rw[f2] at p5 p6 p7 p8;simp only[eY,if_false,if_true] at p1 p2 p3 p4 p5 p6 p7 p8;have er:lq.aA.toNat=lp.aA.toNat+1:=aa;rw[er] at p5 p6 p7 p8;rw[Hl] at p5 p7;refine⟨lp.aA.toNat,fun k j=>if k=lp.gate.toNat/\j=lp.aA.toNat then tau else TF ls k j,fun k j=>if k=lp.gate.toNat/\j=lp.aA.toNat then oth else BF ls k j,aa,aa,.inl ⟨aa,aa⟩,fun k j h=>⟨if_neg h,if_neg h⟩,?_,?_,?_⟩
  .constructor
   .rw[kH,Bm (bd y),dH,mv,f1];show(fv (bd y) (bZ P sd (oH ls.length y))).r=if lp.gate.toNat=lp.gate.toNat/\lq.aA.toNat-1=lp.aA.toNat then tau else TF ls lp.gate.toNat (lq.aA.toNat-1);rw[if_pos ⟨rfl,aa⟩,G1.2.2.1]
   .rw[kH,Bm (bd y),dH,mv,f1];show(fv (bd y) (bZ P sd (oH ls.length y))).l=if lp.gate.toNat=lp.gate.toNat/\lq.aA.toNat=lp.aA.toNat then tau else TF ls lp.gate.toNat lq.aA.toNat;rw[if_neg aa,G1.2.2.1,er];exact p6
   .rw[kH,AW (bd y),dH,mv,f1];show(iB (bd y) (bZ P sd (oH ls.length y))).r=if lp.gate.toNat=lp.gate.toNat/\lq.aA.toNat-1=lp.aA.toNat then oth else BF ls lp.gate.toNat (lq.aA.toNat-1);rw[if_pos ⟨rfl,aa⟩,G1.2.2.2]
   rw[kH,AW (bd y),dH,mv,f1];show(iB (bd y) (bZ P sd (oH ls.length y))).l=if lp.gate.toNat=lp.gate.toNat/\lq.aA.toNat=lp.aA.toNat then oth else BF ls lp.gate.toNat lq.aA.toNat;rw[if_neg aa,G1.2.2.2,er];exact xd.symm.trans p8
  .constructor
   .rw[w7,Bm (bd d'),BS,Cd,f2];show(ke (iB (bd d') (bZ P sd (oT ls.length d')))).r=if lq.gate.toNat=lp.gate.toNat/\lp.aA.toNat-1=lp.aA.toNat then tau else TF ls lq.gate.toNat (lp.aA.toNat-1);rw[if_neg aa,G2.2.1,iU];exact p1
   .rw[w7,Bm (bd d'),BS,Cd,f2];show(ke (iB (bd d') (bZ P sd (oT ls.length d')))).l=if lq.gate.toNat=lp.gate.toNat/\lp.aA.toNat=lp.aA.toNat then tau else TF ls lq.gate.toNat lp.aA.toNat;rw[if_pos ⟨by rw[iU],rfl⟩,G2.2.1];rfl
   .rw[w7,AW (bd d'),BS,Cd,f2];show(ke (fv (bd d') (bZ P sd (oT ls.length d')))).r=if lq.gate.toNat=lp.gate.toNat/\lp.aA.toNat-1=lp.aA.toNat then oth else BF ls lq.gate.toNat (lp.aA.toNat-1);rw[if_neg aa,G2.1,iU];exact xc.trans p3
   rw[w7,AW (bd d'),BS,Cd,f2];show(ke (fv (bd d') (bZ P sd (oT ls.length d')))).l=if lq.gate.toNat=lp.gate.toNat/\lp.aA.toNat=lp.aA.toNat then oth else BF ls lq.gate.toNat lp.aA.toNat;rw[if_pos ⟨by rw[iU],rfl⟩,G2.1];exact xb.symm
  exact p2.trans p5.symm
 clear p1 p2 p3 p4 p5 p6 p7 p8 hR;have mgp:∀i,i<ls.length->(bZ P sd i).k.ay=true->(i=oH ls.length y\/i=oT ls.length d')\/(bZ P sd i=dA ls i/\i≠oT ls.length y/\i≠oH ls.length y/\i≠oT ls.length d'/\i≠oH ls.length d'):=fun i hi hp=>by
  rcases six i hi with (rfl|rfl|rfl|rfl)|h
  .rw[kT,kO cv] at hp;cases hp
  .exact .inl (.inl rfl)
  .exact .inl (.inr rfl)
  .rw[EE,kO cw] at hp;cases hp
  exact .inr h
 have mgc:∀i,i<ls.length->(bZ P sd i).k.aw=true->(i=oT ls.length y\/i=oH ls.length d')\/(bZ P sd i=dA ls i/\i≠oT ls.length y/\i≠oH ls.length y/\i≠oT ls.length d'/\i≠oH ls.length d'):=fun i hi hc=>by
  have n1:∀(l:Let) (r:Int),l.ay=true->({l with aA:=r}:Let).aw=false:=fun l r h=>mA (l:={l with aA:=r}) h;rcases six i hi with (rfl|rfl|rfl|rfl)|h
  .exact .inl (.inl rfl)
  .rw[kH,n1 _ _ pp] at hc;cases hc
  .rw[w7,n1 _ _ pq] at hc;cases hc
  .exact .inl (.inr rfl)
  exact .inr h
 -- the place of a pass is that of an old one
 have old:∀i,i<ls.length->(bZ P sd i).k.ay=true->∃j l,ls[j]?=some l/\l.ay=true/\(bZ P sd i).k.gate=l.gate/\(bZ P sd i).k.aA=l.aA/\((i=oH ls.length y/\j=oH ls.length d')\/(i=oT ls.length d'/\j=oT ls.length y)\/(i=j/\i≠oT ls.length y/\i≠oH ls.length d')):=fun i hi hp=>by
  rcases mgp i hi hp with (rfl|rfl)|⟨e,n1,n2,n3,n4⟩
  .exact⟨_,lq,wQ,pq,by rw[kH];exact iU.symm,by rw[kH],.inl ⟨rfl,rfl⟩⟩
  .exact⟨_,lp,vp,pp,by rw[w7];exact iU,by rw[w7],.inr (.inl ⟨rfl,rfl⟩)⟩
  obtain⟨l,hl⟩:=aI hi;rw[e] at hp;rw[dU hl] at hp;exact⟨i,l,hl,hp,by rw[e,dU hl],by rw[e,dU hl],.inr (.inr ⟨rfl,n1,n4⟩)⟩
 have C1:Xc (bZ P sd (oT ls.length y)) (bZ P sd (oH ls.length d')):=by
  obtain⟨b1,m,hm,mc,mi,mo,ms⟩:=pW ok.cr og cv;rw[<- o1,tW] at hm;have em:=rB hm;subst em;refine⟨by rw[kT,EE,mo];simp,by rw[kT,EE,ms],?_⟩;rw[kT,q1,<- QL,G1.1,G1.2.1,G2.2.2.1,G2.2.2.2];constructor<;>simp only[if_true]
  .exact vh
  .rfl
  .rfl
  rfl
 have hid:lv.id=lw.id:=by obtain⟨b1,m,hm,mc,mi,mo,ms⟩:=pW ok.cr og cv;rw[<- o1,tW] at hm;rw[rB hm,mi]
 have Eo:fH ls (oT ls.length d')=oH ls.length y:=by rw[o1];exact(pW ok.cr og cv).1
 have labs:∀(f:Bool) i,i<ls.length->∀t,t=(fv f (bZ P sd i)).l\/t=(fv f (bZ P sd i)).r->∃j',j'<ls.length/\(t=(sd j').l\/t=(sd j').r):=fun f i hi t ht=>by
  cases f
  .refine⟨i,hi,?_⟩;rcases ht with ht|ht
   .exact .inr ht
   exact .inl ht
  refine⟨(i+P.length-1)%P.length,?_,ht⟩;rw[B8];exact dw _ hn
 have labo:∀(f:Bool) i,i<ls.length->∀t,t=(iB f (bZ P sd i)).l\/t=(iB f (bZ P sd i)).r->∃j',j'<ls.length/\(t=(sd j').l\/t=(sd j').r):=fun f i hi t ht=>by
  cases f
  .refine⟨(i+P.length-1)%P.length,?_,?_⟩
   .rw[B8];exact dw _ hn
   rcases ht with ht|ht
   .exact .inr ht
   exact .inl ht
  exact⟨i,hi,ht⟩
 have czgt:=cz.gt;have czgz:=cz.gz;rw[gY] at czgz;refine XZ g (tau:=tau) (sd:=sd) (T':=T') (B':=B') B8 (sU _ fun _ _=>rfl) (sU _ fun _ _=>rfl) (fun k=>sU _ fun _ _=>rfl) (fun i hi=>?_) (fun i j hi hj fQ ci cj e=>?_) (fun i j hi hj fQ pi pj e1 e2=>?_) (fun i hi ci=>?_) (fun i hi pi=>?_) (fun i hi pi=>?_) (fun k hk=>?_) ?_ (fun j hj t ht=>?_)
 .rcases six i hi with (rfl|rfl|rfl|rfl)|⟨e,_⟩
  .exact⟨by rw[kT];exact g.bad lv (aQ og),fun _=>Z9 (f:=bd y) (by rw[G1.1,G1.2.1]),fun hp=>by rw[kT,kO cv] at hp;cases hp⟩
  .have fl:=aab (f:=bd y) (x:=bZ P sd (oH ls.length y)) (y:=dA ls (oT ls.length y)) (by rw[G1.2.2.1]) (by rw[G1.2.2.2,bp];exact bv.symm);refine⟨by rw[kH];exact Xx pp (g.bad lp (aQ vp)),fun hc=>?_,fun _=>?_⟩
   .rw[kH] at hc;have:=mA (l:={lp with aA:=lq.aA}) pp;rw[this] at hc;cases hc
   rw[fl.1,fl.2,dH];exact(DF g t1).pb (by rw[dU vp];exact pp)
  .have fl:=aab (f:=bd d') (x:=bZ P sd (oT ls.length d')) (y:=dA ls (oH ls.length d')) (by rw[G2.1,bq];exact bw) (by rw[G2.2.1]);refine⟨by rw[w7];exact Xx pq (g.bad lq (aQ wQ)),fun hc=>?_,fun _=>?_⟩
   .rw[w7] at hc;have:=mA (l:={lq with aA:=lp.aA}) pq;rw[this] at hc;cases hc
   rw[fl.1,fl.2,BS];exact(DF g h2).pb (by rw[dU wQ];exact pq)
  .exact⟨by rw[EE];exact g.bad lw (aQ tW),fun _=>Z9 (f:=bd d') (by rw[G2.2.2.1,G2.2.2.2]),fun hp=>by rw[EE,kO cw] at hp;cases hp⟩
  rw[e];exact DF g hi
 .rcases mgc i hi ci with (rfl|rfl)|⟨ei,n1,n2,n3,n4⟩<;>rcases mgc j hj cj with (rfl|rfl)|⟨ej,m1,m2,m3,m4⟩
  .exact absurd rfl fQ
  .exact C1
  .exfalso;obtain⟨l,hl⟩:=aI hj;rw[kT,ej,dU hl] at e;rw[ej,dU hl] at cj;have:=JP g og hl cv cj e m2.symm;rw[<- o1] at this;exact m3 this.symm
  .exact C1.symm
  .exact absurd rfl fQ
  .exfalso;obtain⟨l,hl⟩:=aI hj;rw[EE,ej,dU hl] at e;rw[ej,dU hl] at cj;have:=JP g tW hl cw cj e m3.symm;rw[Eo] at this;exact m2 this.symm
  .exfalso;obtain⟨l,hl⟩:=aI hi;rw[kT,ei,dU hl] at e;rw[ei,dU hl] at ci;have:=JP g og hl cv ci e.symm n2.symm;rw[<- o1] at this;exact n3 this.symm
  .exfalso;obtain⟨l,hl⟩:=aI hi;rw[EE,ei,dU hl] at e;rw[ei,dU hl] at ci;have:=JP g tW hl cw ci e.symm n3.symm;rw[Eo] at this;exact n2 this.symm
  rw[ei] at ci e ⊢;rw[ej] at cj e ⊢;exact KS g hi hj fQ ci cj e
 .obtain⟨a,l,hl,_,g1',sD,c1⟩:=old i hi pi;obtain⟨b,m,hm,_,g2',tg,c2⟩:=old j hj pj;rename_i JB pm';have ju:a≠b:=by
   intro e;rcases c1 with ⟨i1,j1⟩|⟨i1,j1⟩|⟨i1,i2,i3⟩<;>rcases c2 with ⟨k1,k2⟩|⟨k1,k2⟩|⟨k1,k2,k3⟩
   .exact fQ (i1.trans k1.symm)
   .exact npq (by rw[<- k2,<- e,j1])
   .exact k3 (by rw[k1,<- e,j1])
   .exact npq (by rw[<- j1,e,k2])
   .exact fQ (i1.trans k1.symm)
   .exact k2 (by rw[k1,<- e,j1])
   .exact i3 (by rw[i1,e,k2])
   .exact i2 (by rw[i1,e,k2])
   exact fQ (by rw[i1,k1,e])
  have gl:=ok.ax.eQ l (aQ hl) JB;have gm:=ok.ax.eQ m (aQ hm) pm';exact ju (ok.ax.inj a b l m hl hm JB pm' ((GJ gl gm).2 ⟨by rw[<- g1',<- g2',e1],by rw[<- sD,<- tg,e2]⟩))
 .rcases mgc i hi ci with (rfl|rfl)|⟨ei,_⟩
  .rw[kT];exact g.ids.1 lv (aQ og) cv
  .rw[EE];exact g.ids.1 lw (aQ tW) cw
  obtain⟨l,hl⟩:=aI hi;rw[ei,dU hl] at ci ⊢;exact g.ids.1 l (aQ hl) ci
 .obtain⟨a,l,hl,JB,g1',sD,_⟩:=old i hi pi;rw[g1',sD];obtain⟨_,_,b1,b2⟩:=ok.ax.eQ l (aQ hl) JB;exact⟨b1,b2⟩
 .rcases mgp i hi pi with (rfl|rfl)|⟨ei,n1,n2,n3,n4⟩
  .exact pl1
  .exact pl2
  obtain⟨l,hl⟩:=aI hi;rw[ei] at pi ⊢;rw[dU hl] at pi;obtain⟨a1,a2,a3,a4⟩:=Oe g hl pi;rw[dU hl] at a1 a2 a3 a4;obtain⟨b0,_,b1,b2⟩:=ok.ax.eQ l (aQ hl) pi;have far:l.gate.toNat=lp.gate.toNat->l.aA.toNat≠r/\l.aA.toNat-1≠r:=fun iM=>by have gg:l.gate=lp.gate:=aa;have d1:l.aA≠lp.aA:=fun e=>n1 (ok.ax.inj i _ l lp hl vp pi pp ((GJ (ok.ax.eQ l (aQ hl) pi) (ok.ax.eQ lp (aQ vp) pp)).2 ⟨gg,e⟩));have d2:l.aA≠lq.aA:=fun e=>n4 (ok.ax.inj i _ l lq hl wQ pi pq ((GJ (ok.ax.eQ l (aQ hl) pi) (ok.ax.eQ lq (aQ wQ) pq)).2 ⟨by rw[gg,iU],e⟩));rcases km with ⟨s1,s2⟩|⟨s1,s2⟩<;>omega
  have v1:=hT l.gate.toNat (l.aA.toNat-1) (fun⟨h1,h2⟩=>(far h1).2 h2);have v2:=hT l.gate.toNat l.aA.toNat (fun⟨h1,h2⟩=>(far h1).1 h2);constructor
  .rw[dU hl,v1.1];exact a1
  .rw[dU hl,v2.1];exact a2
  .rw[dU hl,v1.2];exact a3
  rw[dU hl,v2.2];exact a4
 .have:=czgt k hk;rw[gY] at this;have v1:=hT k (cg ls k) (fun⟨h1,h2⟩=>by rw[h1] at h2;omega);have v2:=hT (k+1) 0 (fun⟨_,h2⟩=>aa);rw[v1.1,v1.2,v2.1,v2.2];exact this
 .have v1:=hT F (cg ls F) (fun⟨h1,h2⟩=>by rw[h1] at h2;omega);have v2:=hT 0 0 (fun⟨_,h2⟩=>aa);rw[v1.1,v1.2,v2.1,v2.2];exact czgz
 have viaK:∀d,j=d/2->t=(oK ls d).l\/t=(oK ls d).r:=fun d hd=>by
  rw[hd] at ht;unfold oK;split
  .exact ht
  exact ht.symm
 by_cases n1:j=y/2
 .rcases viaK y n1 with h|h
  .exact .inl h
  exact .inr (labs (bd d') _ t2 t (.inl (by rw[G2.1,h];exact xc.symm)))
 by_cases n2:j=d'/2
 .rcases viaK d' n2 with h|h
  .exact .inl (h.trans xa.symm)
  exact .inr (labo (bd y) _ h1 t (.inl (by rw[G1.2.2.2,h];exact xd)))
 exact .inr ⟨j,hj,by rw[sdn j n1 n2];exact ht⟩
theorem XQ(g:ct F ls){a b:Nat}(ha:a<ls.length)(hb:b<ls.length)(ju:a≠b){L:List Pc}(h:BE F ls a b=some L):Cert F L:=by
 unfold BE at h;split at h
 case isFalse=>cases h
 rename_i hc;simp only[bQ,gH,beq_eq_false_iff_ne,beq_iff_eq] at hc;obtain⟨h1,h2,h3,h4,h5⟩:=hc;cases h;have hn:0<ls.length:=iR.2 g.ne;have bh:=eW ls;obtain⟨ea,⟨la,yh,ca⟩,ma,zC,qa⟩:=PQ hn ha h1;obtain⟨eb,⟨lb,Ax,cb⟩,mb,vj,qb⟩:=PQ hn hb h2;generalize (iX ls a).1=pa at*;generalize (iX ls a).2.1=va at*;generalize (iX ls b).1=pb at*;generalize (iX ls b).2.1=vb at*;have eva:pA ls va=⟨la,iE ls va⟩:=iW (nL yh);have evb:pA ls vb=⟨lb,iE ls vb⟩:=iW (nL Ax);have epa:pA ls pa=⟨ma,iE ls pa⟩:=iW (nL zC);have epb:pA ls pb=⟨mb,iE ls pb⟩:=iW (nL vj);rw[eva,evb] at h4;rw[epa,epb]
 obtain⟨w,hw,qW,d,d1,d2,d3,d4,two,cs⟩:=apR g ha hb ju ea eb yh Ax zC vj ca cb qa qb h4 h3 h5;have pc:∀ {x y:Nat} {l m:Let},ls[x]?=some l->ls[y]?=some m->l.aw=true->m.ay=true->x≠y:=fun h1 h2 h3 h4 e=>by subst e;rw[h1] at h2;have:=rB h2;rw[this,mA h4] at h3;cases h3
 have nva:va≠pa:=pc yh zC ca qa;have nvb:vb≠pb:=pc Ax vj cb qb;have nvab:va≠pb:=pc yh vj ca qb;have nvba:vb≠pa:=pc Ax zC cb qa
 let PP:=gA (gA (pieces ls) pa mb.aA) pb ma.aA
 have Uz:=nL zC;have akY:pa≠pb->(gA (pieces ls) pa mb.aA)[pb]?=some ⟨mb,iE ls pb⟩:=fun aK=>by rw[Qc Uz,if_neg aK.symm];exact nL vj
 have akZ:∃p,(gA (pieces ls) pa mb.aA)[pb]?=some p:=aI (by rw[Be,bh];exact(aV.1 vj).1);have OK:PP.length=ls.length:=by show(gA (gA _ _ _) _ _).length=_;rw[Be,Be,bh]
 have e1:(fU ls PP a).length=ls.length:=by rw[CZ,OK]
 have B8:(iY ls PP [a,b]).length=ls.length:=by rw[Fe,OK]
 have sU:∀q:Let->Bool,(∀(l:Let) (r:Int),q {l with aA:=r}=q l)->au q ((iY ls PP [a,b]).map Pc.l)=au q ls:=fun q hq=>by rw[<- Vj (ls:=ls) q];show List.countP _ _=List.countP _ _;rw[Kl,Kl];show(fU ls (fU ls PP a) b).countP _=_;obtain⟨p,hp⟩:=akZ;rw[JX e1 hb (GD g hb),JX OK ha (GD g ha),VT hp (fun p=>hq _ _),VT Uz (fun p=>hq _ _)]
 have PPg:pa≠pb->PP[pa]?=some ⟨{ma with aA:=mb.aA},iE ls pa⟩/\PP[pb]?=some ⟨{mb with aA:=ma.aA},iE ls pb⟩/\ ∀i,i≠pa->i≠pb->PP[i]?=(pieces ls)[i]? :=fun aK=>by
  have k:∀j,PP[j]?=if j=pb then some ⟨{mb with aA:=ma.aA},iE ls pb⟩ else if j=pa then some ⟨{ma with aA:=mb.aA},iE ls pa⟩ else (pieces ls)[j]? :=fun j=>by show(gA (gA _ _ _) _ _)[j]?=_;rw[Qc (akY aK),Qc Uz]
  refine⟨by rw[k,if_neg aK,if_pos rfl],by rw[k,if_pos rfl],fun i n1 n2=>by rw[k,if_neg n2,if_neg n1]⟩
 have swg:pa≠pb->(iY ls PP [a,b])[pa]?=PP[va]? /\(iY ls PP [a,b])[va]?=PP[pa]? /\(iY ls PP [a,b])[pb]?=PP[vb]? /\(iY ls PP [a,b])[vb]?=PP[pb]? /\ ∀i,i≠pa->i≠va->i≠pb->i≠vb->(iY ls PP [a,b])[i]?=PP[i]? :=fun aK=>by
  have k:∀i,(iY ls PP [a,b])[i]?=if i=nx ls b then (fU ls PP a)[b]? else if i=b then (fU ls PP a)[nx ls b]? else (fU ls PP a)[i]? :=fun i=>Fb e1 hb i;have k2:∀i,(fU ls PP a)[i]?=if i=nx ls a then PP[a]? else if i=a then PP[nx ls a]? else PP[i]? :=fun i=>Fb OK ha i;have ka:∀i,i≠pa->i≠va->(fU ls PP a)[i]?=PP[i]? :=fun i n1 n2=>by
   rcases ea with ⟨q1,q2⟩|⟨q1,q2⟩
   .rw[k2,if_neg (by rw[<- q2];exact n2),if_neg (by rw[<- q1];exact n1)]
   rw[k2,if_neg (by rw[<- q1];exact n1),if_neg (by rw[<- q2];exact n2)]
  have kb:∀i,i≠pb->i≠vb->(iY ls PP [a,b])[i]?=(fU ls PP a)[i]? :=fun i n1 n2=>by
   rcases eb with ⟨q1,q2⟩|⟨q1,q2⟩
   .rw[k,if_neg (by rw[<- q2];exact n2),if_neg (by rw[<- q1];exact n1)]
   rw[k,if_neg (by rw[<- q1];exact n1),if_neg (by rw[<- q2];exact n2)]
  have ka2:(fU ls PP a)[pa]?=PP[va]? /\(fU ls PP a)[va]?=PP[pa]? :=by
   rcases ea with ⟨q1,q2⟩|⟨q1,q2⟩
   .exact⟨by rw[k2,if_neg (by rw[<- q2];exact nva.symm),if_pos q1,<- q2],by rw[k2,if_pos q2,<- q1]⟩
   exact⟨by rw[k2,if_pos q1,<- q2],by rw[k2,if_neg (by rw[<- q1];exact nva),if_pos q2,<- q1]⟩
  have MI:(iY ls PP [a,b])[pb]?=(fU ls PP a)[vb]? /\(iY ls PP [a,b])[vb]?=(fU ls PP a)[pb]? :=by
   rcases eb with ⟨q1,q2⟩|⟨q1,q2⟩
   .exact⟨by rw[k,if_neg (by rw[<- q2];exact nvb.symm),if_pos q1,<- q2],by rw[k,if_pos q2,<- q1]⟩
   exact⟨by rw[k,if_pos q1,<- q2],by rw[k,if_neg (by rw[<- q1];exact nvb),if_pos q2,<- q1]⟩
  refine⟨by rw[kb _ aK nvba.symm,ka2.1],by rw[kb _ nvab h3,ka2.2],by rw[MI.1,ka _ nvba (Ne.symm h3)],by rw[MI.2,ka _ aK.symm nvab.symm],fun i n1 n2 n3 n4=>by rw[kb i n3 n4,ka i n1 n2]⟩
 rcases cs with ⟨c1,c2,c3,c4,c5,c6⟩|⟨c1,c2,c3,c4,c5,c6⟩
 .refine XR g hw qW d1 d2 d3 d4 rfl two (lp:=ma) (lv:=la) (lw:=lb) (lq:=mb) (by rw[c3];exact zC) (by rw[c4];exact yh) (by rw[c5];exact Ax) (by rw[c6];exact vj) qa ca cb qb B8 sU fun aK=>?_;rw[c3,c4,c5,c6] at*;obtain⟨g1,g2,g3⟩:=PPg aK;obtain⟨s1,s2,s3,s4,s5⟩:=swg aK;exact⟨by rw[s1,g3 _ nva nvab],by rw[s2,g1],by rw[s4,g2],by rw[s3,g3 _ nvba nvb],fun i n1 n2 n3 n4=>by rw[s5 i n1 n2 n4 n3,g3 i n1 n4]⟩
 refine XR g hw qW d1 d2 d3 d4 rfl two (lp:=mb) (lv:=lb) (lw:=la) (lq:=ma) (by rw[c3];exact vj) (by rw[c4];exact Ax) (by rw[c5];exact yh) (by rw[c6];exact zC) qb cb ca qa B8 sU fun aK=>?_;rw[c3,c4,c5,c6] at*;obtain⟨g1,g2,g3⟩:=PPg aK.symm;obtain⟨s1,s2,s3,s4,s5⟩:=swg aK.symm;exact⟨by rw[s3,g3 _ nvba nvb],by rw[s4,g2],by rw[s2,g1],by rw[s1,g3 _ nva nvab],fun i n1 n2 n3 n4=>by rw[s5 i n4 n3 n1 n2,g3 i n4 n1]⟩
end
end Go.Abs
