/- A part. -/
import Derived.Test.YtffbakabajjgcaaGreatDoorWn
set_option linter.all false
set_option maxRecDepth 100000
set_option maxHeartbeats 16000000
namespace Go.Abs
section
variable{ls:List Let}{F:Nat}
def ab9(l:List Pc)(drop:Nat->Pc->Bool)(i:Nat):Option Pc:=match l[i]? with|some p=>if drop i p then none else some p|none=>none
def aca(l:List Pc)(drop:Nat->Pc->Bool)(k:Nat):List Pc:=(List.range k).filterMap (ab9 l drop)
def UM(l:List Pc)(drop:Nat->Pc->Bool):List Pc:=aca l drop l.length
theorem amU(l:List Pc)(drop:Nat->Pc->Bool)(k:Nat):(aca l drop k).length<=k:=by have:=List.length_filterMap_le (ab9 l drop) (List.range k);rwa[KN] at this
theorem LF(g:bQ F ls){e:Nat}(he:e<ls.length):aF S 176 [.one (.p (fO F ls)),vi e] (Ah (.int .i64 e) (.int .i64 ((e+1)%ls.length:Nat))):=by have hlen:=g.len;have cK:=jJ ls;have w1:=bN (n:=e) aa;have e1:=um (e+1) ls.length;have hz:¬((ls.length:Int)=0):=aa;refine aV c176 ?_;simp only[go_sem,i176,w1,e1,cK,hz];exact⟨aK,rfl⟩
def mxI(a b:Int):Int:=if a<b then b else a
def mnI(a b:Int):Int:=if b<a then b else a
def acR(ls:List Let)(av:Nat):Option (List Pc):=
 let p:=(pieces ls).getD av ⟨kO,false⟩
 let q:=(pieces ls).getD ((av+1)%ls.length) ⟨kO,false⟩
 if (p.l.kind==1)&&((q.l.kind==1)&&((p.l.gate==q.l.gate)&&((mxI p.l.aE q.l.aE-mnI p.l.aE q.l.aE==1)&& !(decide (aC Let.aJ ls<=2)&&decide (0<aC Let.aG ls/2)))))
 then some (Dn (UM (pieces ls) fun k _=>decide (k=av)||decide (k=(av+1)%ls.length)) p.l.gate (mxI p.l.aE q.l.aE) (-2)) else none
abbrev iP(o:List Int):List (List PV):=o.map fun n=>[PV.int .i64 n]
theorem yp{o:List Int}{k:Nat}{v:Int}(h:o[k]?=some v):(iP o)[k]?=some [.int .i64 v]:=by simp[h]
def zS(o:List Int)(x:Int)(i:Nat):Bool:=match o[i]? with|some y=>y==x|none=>false
def Te(ids:List Int)(_:Nat)(p:Pc):Bool:=(p.l.kind==2)&&ids.contains p.l.id
def lowK(ids:List Int)(k:Nat)(p:Pc):Pc:={p with l:={p.l with id:=p.l.id-((ids.take k).countP (fun i=>decide (i<p.l.id)):Nat)}}
def lowP(ids:List Int)(p:Pc):Pc:=if p.l.kind==2 then lowK ids ids.length p else p
abbrev O1(l:List Pc)(ids:List Int):List Pc:=(UM l (Te ids)).map (lowP ids)
theorem Kb(o:List Pc)(k:Nat)(p:Pc):(jk o).set k p.ps=jk (o.set k p):=by simp[yM]
theorem bQ.ids(g:bQ F ls):UD ls/\Hq ls:=by have hc:=g.ok.cr;unfold lQ at hc;simp only[cN] at hc;exact HL.1 fun k hk=>ir.1 hc.1.2 k (fg.2 hk)
def lcR(ls:List Let)(av:Nat):Option (List Pc):=
 let p:=(pieces ls).getD av ⟨kO,false⟩
 let q:=(pieces ls).getD ((av+1)%ls.length) ⟨kO,false⟩
 if (p.l.kind==2)&&((q.l.kind==2)&&(p.l.id==q.l.id)) then some (O1 (pieces ls) [p.l.id]) else none
abbrev pA(ls:List Let)(i:Nat):Pc:=(pieces ls).getD i ⟨kO,false⟩
theorem qD{i:Nat}{p:Pc}(h:(pieces ls)[i]?=some p):pA ls i=p:=by simp[pA,cY,h]
abbrev nx(ls:List Let)(e:Nat):Nat:=(e+1)%ls.length
def mG(ls:List Let)(e:Nat)(ov:Bool):Bool:=((pA ls e).l.kind==2)&&(((pA ls (nx ls e)).l.kind==2)&&(((pA ls e).l.over==ov)&&((pA ls (nx ls e)).l.over==ov)))
theorem XV(g:bQ F ls){e:Nat}(he:e<ls.length)(ov:Bool):aF S 187 [.one (.p (fO F ls)),vi e,vb ov] (rb (mG ls e ov)):=by
 have hlen:=g.len;have cK:=jJ ls;have pe:=LF g he;have hm:=ez (e+1) (show 0<ls.length by omega);obtain⟨p,hp⟩:=aM (ls:=pieces ls) (k:=e) aa;obtain⟨q,hq⟩:=aM (ls:=pieces ls) (k:=(e+1)%ls.length) aa;have mu:=rG hp;have CK:=rG hq;unfold mG;rw[qD hp,qD hq];refine aV c187 ?_;cases c1:(p.l.kind==2) with
 |false=>simp only[go_sem,i187,s176,cU pe mw,mu,Pc.ps,c1]
 |true=>
 cases c2:(q.l.kind==2) with
 |false=>simp only[go_sem,i187,s176,cU pe mw,mu,CK,Pc.ps,c1,c2]
 |true=>
 cases c3:(p.l.over==ov) with
 |false=>simp only[go_sem,i187,s176,cU pe mw,mu,CK,Pc.ps,c1,c2,c3]
 |true=>
 cases c4:(q.l.over==ov) with
 |false=>simp only[go_sem,i187,s176,cU pe mw,mu,CK,Pc.ps,c1,c2,c3,c4]
 |true=>simp only[go_sem,i187,s176,cU pe mw,mu,CK,Pc.ps,c1,c2,c3,c4]
def dC(ls:List Let)(e:Nat):Nat×Nat×Bool:=if (pA ls e).l.kind==2 then (nx ls e,e,(pA ls (nx ls e)).l.kind==1) else (e,nx ls e,((pA ls e).l.kind==1)&&((pA ls (nx ls e)).l.kind==2))
abbrev aet(a b c:PV):RV:=.tup [.one (.p a),.one (.p b),.one (.p c)]
theorem yr{aj:aw}{s:Nat}{a b c:PV}{l:Bool}:land aj [] s ((aet a b c).eD l)=some (.tup [.one (.p a),.one (.p b),.one (.p c)],[]):=by cases l<;>rfl
theorem adS(g:bQ F ls){e:Nat}(he:e<ls.length):aF S 183 [.one (.p (fO F ls)),vi e] (aet (.int .i64 ((dC ls e).1:Nat)) (.int .i64 ((dC ls e).2.1:Nat)) (.bool (dC ls e).2.2)):=by
 have hlen:=g.len;have cK:=jJ ls;have pe:=LF g he;have hm:=ez (e+1) (show 0<ls.length by omega);obtain⟨p,hp⟩:=aM (ls:=pieces ls) (k:=e) aa;obtain⟨q,hq⟩:=aM (ls:=pieces ls) (k:=(e+1)%ls.length) aa;have mu:=rG hp;have CK:=rG hq;unfold dC;rw[qD hp,qD hq];refine aV c183 ?_;cases c1:(p.l.kind==2) with
 |true=>
  have e1:p.l.kind=2:=by simpa using c1
  rw[aD rfl];cases c2:(q.l.kind==1) with
  |true=>simp only[go_sem,i183,s176,cU pe mw,mu,CK,Pc.ps,c1,c2];exact⟨aK,rfl⟩
  |false=>simp only[go_sem,i183,s176,cU pe mw,mu,CK,Pc.ps,c1,c2];exact⟨aK,rfl⟩
 |false=>
  rw[ay ae];cases c2:(p.l.kind==1) with
  |true=>
   cases c3:(q.l.kind==2) with
   |true=>simp only[go_sem,i183,s176,cU pe mw,mu,CK,Pc.ps,c1,c2,c3];exact⟨aK,rfl⟩
   |false=>simp only[go_sem,i183,s176,cU pe mw,mu,CK,Pc.ps,c1,c2,c3];exact⟨aK,rfl⟩
  |false=>simp only[go_sem,i183,s176,cU pe mw,mu,Pc.ps,c1,c2];exact⟨aK,rfl⟩
def Bl(o:List Nat)(pr:Nat->Bool)(i:Nat):Bool:=match o[i]? with|some v=>pr v|none=>false
theorem amx(o:List Nat)(hl:o.length<=1000000){f:Nat}{x y z:PV}(hn:x.norm=x/\y.norm=y/\z.norm=z)(lU:S.shared f=false)(pr:Nat->Bool)(hd:∀v∈o,aF S f [vi (v:Nat),.one (.p x),.one (.p y),.one (.p z)] (rb (pr v))):
  aF S 248 [.one (.p (.sl (nP o))),.one (.p (.fn f [] [x,y,z]))] (ri (match (List.range o.length).find? (Bl o pr) with|some k=>(k:Int)|none=> -1)):=by
 obtain⟨js,jt,wS⟩:=hn;refine aV c248 ?_;simp only[go_sem,i248];refine cJ (fun k ak aj=>ak 0=.one (.p (.sl (nP o)))/\ak 1=.one (.p (.fn f [] [x,y,z]))/\ak 7=vi o.length/\ak 8=vi k/\ ∀j,j<k->Bl o pr j=false) 0 o.length (bj _) ?_ ?_
 .simp only[go_sem];exact⟨rfl,fun j hj=>absurd hj (mT j)⟩
 rintro k ak aj hk ⟨h0,h1,h7,h8,ua⟩
 by_cases aq:k<o.length
 .have aL:((k:Int)<(o.length:Int)):=aa;obtain⟨v,hv⟩:=aM aq;have jX:=iF hv;have w1:=bN (n:=k) aa;have pd:=hd v (aW hv);have vu:Bl o pr k=pr v:=by simp[Bl,hv]
  cases hb:pr v with
  |true=>rw[hb] at pd vu;have hf:=Cd (p:=Bl o pr) aq ua vu;simp only[go_sem,i248_l1,h0,h1,h7,h8,aL,jX,lU,js,jt,wS,bh pd,hf]
  |false=>
   rw[hb] at pd vu;simp only[go_sem,i248_l1,h0,h1,h7,h8,aq,aL,jX,lU,js,jt,wS,bh pd,w1];intro j hj;rcases lL.1 hj with h|rfl
   .exact ua j h
   exact vu
 have:k=o.length:=aa;subst this;have hf:=IL (p:=Bl o pr) ua;simp only[go_sem,i248_l1,i248_r2,h7,h8,dG,hf]
theorem aiC(o:List Nat)(hl:o.length<=1000000){f:Nat}{x y z:PV}(hn:x.norm=x/\y.norm=y/\z.norm=z)(lU:S.shared f=false)(pr:Nat->Bool)(hd:∀v∈o,aF S f [vi (v:Nat),.one (.p x),.one (.p y),.one (.p z)] (rb (pr v))):
  aF S 213 [.one (.p (.sl (nP o))),.one (.p (.fn f [] [x,y,z]))] (rb (o.any pr)):=by
 have pi:=amx o hl hn lU pr hd;obtain⟨js,jt,wS⟩:=hn;refine aV c213 ?_;cases ha:o.any pr with
 |true=>
  obtain⟨v,hv,hp⟩:=FO.1 ha;obtain⟨k,hk⟩:=jd hv;have eI:=(bg.1 hk).1;cases hf:(List.range o.length).find? (Bl o pr) with
  |none=>have:=Of.1 hf k (fg.2 eI);simp[Bl,hk,hp] at this
  |some j=>rw[hf] at pi;have jU:(0:Int)<=(j:Int):=aa;simp only[go_sem,i213,s248,dJ pi,jU]
 |false=>
  cases hf:(List.range o.length).find? (Bl o pr) with
  |some j=>
   have h1:=RX hf;unfold Bl at h1;cases ho:o[j]? with
   |none=>rw[ho] at h1;cases h1
   |some v=>rw[ho] at h1;have:=HO.1 ha v (aW ho);exact absurd h1 this
  |none=>rw[hf] at pi;have jU:¬(0:Int)<= -1:=ae;simp only[go_sem,i213,s248,dJ pi,jU]
def uB(f:Fc)(e:Nat):Nat:=f.bl.countP fun d=>d/2==e
def ve(f:Fc)(pl:Nat)(edges:List Nat):Bool:=(f.bl.length==edges.length)&&((f.places.length==pl)&&edges.all fun e=>uB f e==1)
theorem Yy(g:bQ F ls){j:Nat}{f:Fc}(hf:(dh F ls)[j]?=some f)(edges:List Nat)(he:edges.length<=1000)(pl:Nat):
  aF S 214 [vi j,.one (.p (.box [fO F ls])),.one (.p (.box [.sl (nP edges)])),.one (.p (.box [.int .i64 pl]))] (rb (ve f pl edges)):=by
 have hlen:=g.len;have gY:(aB ls).length<=ls.length:=sX ls ls.length;have Cr:=O9 g.ok (aW hf);have fj:nD ls<=1600:=by unfold nD;omega
 have Gz:=Pa hf;have nu:=(bg.1 hf).1;refine aV c214 ?_;unfold ve;cases c1:(f.bl.length==edges.length) with
 |false=>
  have n1:(((f.bl.length:Nat):Int)!=((edges.length:Nat):Int))=true:=by
   have:¬f.bl.length=edges.length:=by simpa using c1
   simp[bne];omega
  simp only[go_sem,i214,Gz,Fc.ps,n1]
 |true=>
 have n1:(((f.bl.length:Nat):Int)!=((edges.length:Nat):Int))=false:=by
  have:f.bl.length=edges.length:=by simpa using c1
  simp[bne,this]
 cases c2:(f.places.length==pl) with
 |false=>
  have n2:(((f.places.length:Nat):Int)!=((pl:Nat):Int))=true:=by
   have:¬f.places.length=pl:=by simpa using c2
   simp[bne];omega
  simp only[go_sem,i214,Gz,Fc.ps,n1,n2]
 |true=>
 have n2:(((f.places.length:Nat):Int)!=((pl:Nat):Int))=false:=by
  have:f.places.length=pl:=by simpa using c2
  simp[bne,this]
 simp only[go_sem,i214,Gz,Fc.ps,n1,n2];refine cJ (fun k ak aj=>ak 6=.one (.aX 13696064448 1 0)/\aj 13696064448=(1,some (.var (f.ps.map .p)))/\ak 32=.one (.p (.sl (nP edges)))/\ak 33=vi edges.length/\ak 34=vi k/\ ∀i e,i<k->edges[i]?=some e->(uB f e==1)=true) 0 edges.length (bj _) ?_ ?_
 .simp only[go_sem,Fc.ps];first|exact⟨rfl,fun i e hi=>absurd hi (mT i)⟩|exact⟨rfl,rfl,fun i e hi=>absurd hi (mT i)⟩|exact fun i e hi=>absurd hi (mT i)
 rintro k ak aj hk ⟨h6,b6,h32,zn,h34,au⟩
 simp only[Fc.ps,fy,pV] at b6;by_cases aq:k<edges.length
 .have aL:((k:Int)<(edges.length:Int)):=aa;obtain⟨e,hek⟩:=aM aq;have Ml:=iF hek;have w1:=bN (n:=k) aa;simp only[go_sem,i214_l4,h6,b6,h32,zn,h34,aL,Ml];refine cJ (fun i dp ba=>dp 6=.one (.aX 13696064448 1 0)/\ba 13696064448=(1,some (.var (f.ps.map .p)))/\dp 32=.one (.p (.sl (nP edges)))/\dp 33=vi edges.length/\dp 34=vi k/\dp 8=vi e/\dp 9=vi ((f.bl.take i).countP fun d=>d/2==e:Nat)/\dp 39=.one (.p (.sl (nP f.bl)))/\dp 40=vi f.bl.length/\dp 41=vi i) 0 f.bl.length (bj _) ?_ ?_
  .simp only[go_sem,h6,b6,h32,zn,h34,Fc.ps];first|exact⟨rfl,rfl⟩|exact rfl|exact⟨rfl,rfl,rfl⟩
  rintro i dp ba hi ⟨p6,d6,p32,p33,Fq,p8,p9,p39,p40,p41⟩
  by_cases uJ:i<f.bl.length
  .have aaV:((i:Int)<(f.bl.length:Int)):=aa;obtain⟨d,hd⟩:=aM uJ;have mq:=iF hd;have w2:=bN (n:=i) aa;have wq:=wrap_small (n:=d/2) (by have:=Tl (aW hf) d (aW hd);omega);have cP:(f.bl.take i).countP (fun d=>d/2==e)<=i:=mD WJ (by rw[gT];omega);have w3:=bN (n:=(f.bl.take i).countP fun d=>d/2==e) aa;have vn:(f.bl.take (i+1)).countP (fun d=>d/2==e)=(f.bl.take i).countP (fun d=>d/2==e)+if (d/2==e)=true then 1 else 0:=by
    rw[iu,hd,FQ];simp[yI,List.countP_nil]
   cases qk:(d/2==e) with
   |true=>
    have n3:(((d/2:Nat):Int)==(e:Int))=true:=by
     have:d/2=e:=by simpa using qk
     simp;omega
    rw[qk,aD rfl] at vn;simp only[go_sem,i214_l1,p6,p32,p33,Fq,p8,p9,p39,p40,p41,uJ,aaV,mq,dS,fp,wq,n3,w2,w3,vn];first|exact d6|exact⟨d6,rfl⟩
   |false=>
    have n3:(((d/2:Nat):Int)==(e:Int))=false:=by
     have:¬d/2=e:=by simpa using qk
     simp;omega
    rw[qk,ay ae,xA] at vn;simp only[go_sem,i214_l1,p6,p32,p33,Fq,p8,p9,p39,p40,p41,uJ,aaV,mq,dS,fp,wq,n3,w2,vn];first|exact d6|exact⟨d6,rfl⟩
  have:i=f.bl.length:=aa;subst this;rw[kE] at p9;have hdc:(f.bl.countP fun d=>d/2==e)=uB f e:=rfl;rw[hdc] at p9;cases hq:(uB f e==1) with
  |true=>
   have n4:(((uB f e:Nat):Int)!=1)=false:=by
    have:uB f e=1:=by simpa using hq
    simp[bne,this]
   simp only[go_sem,i214_l1,i214_r2,i214_r3,p6,p32,p33,Fq,p9,p40,p41,dG,n4,w1,aq];refine⟨d6,fun i2 e2 Jf yf=>?_⟩;rcases lL.1 Jf with h|rfl
   .exact au i2 e2 h yf
   rw[hek] at yf;cases yf;exact hq
  |false=>
   have n4:(((uB f e:Nat):Int)!=1)=true:=by
    have:¬uB f e=1:=by simpa using hq
    simp[bne];omega
   have cV:(edges.all fun e=>uB f e==1)=false:=WE.2 ⟨e,aW hek,by rw[hq];decide⟩;simp only[go_sem,i214_l1,i214_r2,p9,p40,p41,dG,n4,cV]
 have:k=edges.length:=aa;subst this;have cV:(edges.all fun e=>uB f e==1)=true:=ir.2 fun e he=>by obtain⟨i,hi⟩:=jd he;exact au i e (bg.1 hi).1 hi
 simp only[go_sem,i214_l4,i214_r5,zn,h34,dG,cV]
def rV(F:Nat)(ls:List Let)(pl:Nat)(edges:List Nat)(e0:Nat):Bool:=ve (kr F ls (2*e0)) pl edges||ve (kr F ls (2*e0+1)) pl edges
theorem YB(g:bQ F ls)(edges:List Nat)(de:edges.length<=1000){e0:Nat}(h0:edges[0]?=some e0)(he0:e0<ls.length)(pl:Nat):
  aF S 184 [.one (.p (fO F ls)),vi pl,.one (.p (.sl (nP edges)))] (rb (rV F ls pl edges e0)):=by
 have hlen:=g.len;obtain⟨j0,a1,a2,a3⟩:=Tk g (d:=2*e0) aa;obtain⟨j1,b1,b2,b3⟩:=Tk g (d:=2*e0+1) aa;have g0:(dh F ls).getD j0 Nh=kr F ls (2*e0):=by rw[cY,a2];rfl
 have g1:(dh F ls).getD j1 Nh=kr F ls (2*e0+1):=by rw[cY,b2];rfl
 have pc:=aiC [j0,j1] af (f:=214) (x:=.box [fO F ls]) (y:=.box [.sl (nP edges)]) (z:=.box [.int .i64 pl]) ⟨rfl,rfl,rfl⟩ s214 (fun j=>ve ((dh F ls).getD j Nh) pl edges) (fun v hv=>by
  simp only[cI,iM,or_false] at hv;rcases hv with rfl|rfl
  .rw[g0];exact Yy g a2 edges de pl
  rw[g1];exact Yy g b2 edges de pl)
 have ak3:([j0,j1].any fun j=>ve ((dh F ls).getD j Nh) pl edges)=rV F ls pl edges e0:=by simp only[Rz,WG,Ry,g0,g1];rfl
 rw[ak3] at pc;simp only[fy,pV] at pc;have ja:=iF a1;have jb:=iF b1;have he:=iF h0;have m2:=sL (a:=e0) aa;have m3:=bN (n:=2*e0) aa;have tj:=UX F ls;have l1:2*e0<(ou F ls).length:=aa;have l2:2*e0+1<(ou F ls).length:=aa;have ju:0<edges.length:=(bg.1 h0).1;have hpos':(0:Int)<(edges.length:Int):=aa;refine aV c184 ?_;simp only[go_sem,i184,he,m2,m3,ja,jb,s213,kW pc];exact aK
def gk(ls:List Let)(l:List Pc)(e:Nat):List Pc:=(l.set e (l.getD (nx ls e) ⟨kO,false⟩)).set (nx ls e) (l.getD e ⟨kO,false⟩)
theorem HC(ls:List Let)(l:List Pc)(e:Nat):(gk ls l e).length=l.length:=by simp[gk]
def im(ls:List Let)(l:List Pc)(es:List Nat):List Pc:=es.foldl (gk ls) l
theorem Bw(ls:List Let):∀(es:List Nat) (l:List Pc),(im ls l es).length=l.length:=by
 intro es
 induction es with
 |nil=>intro l;rfl
 |cons e es ih=>intro l;show(im ls (gk ls l e) es).length=_;rw[ih,HC]
theorem asD(g:bQ F ls)(es:List Nat)(kA:∀e∈es,e<ls.length)(de:es.length<=1000):
  aF S 190 [.one (.p (fO F ls)),.one (.p (.sl (nP es)))] (.one (aO xh 7 (jk (im ls (pieces ls) es)))):=by
 have hlen:=g.len;have cK:=jJ ls;have aI:pieces ls≠[]:=jl.1 (by have:=jl.2 g.ne;omega);have pcl:=Yc aI aa;have lo:S.lone 12160064256=false:=ah;refine aV c190 ?_;simp only[go_sem,i190,s181];refine vj pcl lo (.inl rfl) fun cc mF gc te=>?_;rcases gc with ⟨e,_⟩|⟨_,gg,e,hC⟩
 .exact absurd (by simpa using e) aI
 cases e;rw[cH,cK];simp only[go_sem];refine cJ (fun k ak aj=>ak 0=.one (.p (fO F ls))/\ak 5=.one (.hsl 12160064256 gg 7 0 ls.length)/\ak 15=.one (.p (.sl (nP es)))/\ak 16=vi es.length/\ak 17=vi k/\aj 12160064256=(gg,some (.arr xh 7 (jk (im ls (pieces ls) (es.take k)))))) 0 es.length (bj _) ?_ ?_
 .simp only[go_sem,hC];first|exact⟨rfl,rfl⟩|rfl|exact⟨rfl,rfl,rfl⟩
 rintro k ak aj hk ⟨h0,h5,Eo,xS,kZ,bO⟩
 by_cases aq:k<es.length
 .have aL:((k:Int)<(es.length:Int)):=aa;obtain⟨e,he⟩:=aM aq;have Ml:=iF he;have Mj:=kA e (aW he);have pe:=LF g Mj;have w1:=bN (n:=k) aa;have eY:im ls (pieces ls) (es.take (k+1))=gk ls (im ls (pieces ls) (es.take k)) e:=by
   unfold im;rw[iu,he,Av];rfl
  have lT:(im ls (pieces ls) (es.take k)).length=ls.length:=by rw[Bw,cK]
  have hm:=ez (e+1) (show 0<ls.length by omega);generalize im ls (pieces ls) (es.take k)=m at bO eY lT;obtain⟨p,hp⟩:=aM (ls:=m) (k:=e) aa;obtain⟨q,hq⟩:=aM (ls:=m) (k:=(e+1)%ls.length) aa;have jX:=rG hp;have yo:=rG hq;have l1:e<m.length:=aa;have l2:(e+1)%ls.length<m.length:=aa;have s1:=Kb m e q;have Cv:(m.set e q).set ((e+1)%ls.length) p=gk ls m e:=by unfold gk nx;rw[cY,hq,cY,hp];rfl
  have s2:=Kb (m.set e q) ((e+1)%ls.length) p;rw[Cv,<- eY] at s2;simp only[Pc.ps] at s1 s2;obtain⟨p',iU⟩:=aM (ls:=m.set e q) (k:=e) (by rw[tE];omega);obtain⟨q',GP⟩:=aM (ls:=m.set e q) (k:=(e+1)%ls.length) (by rw[tE];omega);have Us:=rG GP;simp only[go_sem,i190_l1,h0,h5,Eo,xS,kZ,bO,aq,aL,Ml,s176,cU pe mw,Mj,hm,jX,yo,Us,s1,s2,Pc.ps,w1];exact aK
 have:k=es.length:=aa;subst this;rw[kE] at bO;simp only[go_sem,i190_l1,i190_r2,h5,xS,kZ,dG];have h1:(im ls (pieces ls) es).length=ls.length:=by rw[Bw,cK]
 refine xR (.inr ⟨?_,gg,by rw[cH,h1],bO⟩);intro h2;have:=congrArg List.length h2;rw[cH,h1,eE] at this;have h3:=jl.2 g.ne;omega
def iK(l:List Pc)(i:Nat)(r:Int):List Pc:=l.set i {(l.getD i ⟨kO,false⟩) with l:={(l.getD i ⟨kO,false⟩).l with aE:=r}}
theorem Bt(l:List Pc)(i:Nat)(r:Int):(iK l i r).length=l.length:=by simp[iK]
def uy(F:Nat)(ls:List Let)(av bv:Nat):Option (List Pc):=
 if (dC ls av).2.2&&((dC ls bv).2.2&&(!((dC ls av).2.1==(dC ls bv).2.1)&&(((pA ls (dC ls av).2.1).l.id==(pA ls (dC ls bv).2.1).l.id)&&rV F ls 1 [av,bv] av)))
 then some (im ls (iK (iK (pieces ls) (dC ls av).1 (pA ls (dC ls bv).1).l.aE) (dC ls bv).1 (pA ls (dC ls av).1).l.aE) [av,bv]) else none
theorem QQ{e:Nat}(he:e<ls.length):(dC ls e).1<ls.length/\(dC ls e).2.1<ls.length:=by
 have hm:=ez (e+1) (show 0<ls.length by omega);unfold dC nx;split
 .exact⟨hm,he⟩
 exact⟨he,hm⟩
theorem ahv(g:bQ F ls){av bv:Nat}(ha:av<ls.length)(hb:bv<ls.length){k c:Int}{l o:Bool}{sg:Int}:
  aF S 147 [.one (.p (fO F ls)),fE k av bv c l o sg] (kR (uy F ls av bv)):=by
 have hlen:=g.len;have cK:=jJ ls;have pa:=adS g ha;have pb:=adS g hb;have pc:=YB g [av,bv] af (e0:=av) rfl ha 1;obtain⟨p1,v1⟩:=QQ ha;obtain⟨q1,w1⟩:=QQ hb;unfold uy;generalize dC ls av=x at*;generalize dC ls bv=y at*;obtain⟨pi,KC,one⟩:=x;obtain⟨qi,wi,two⟩:=y;simp only at pa pb p1 v1 q1 w1 ⊢;simp only[fy,pV] at pc;have c1:((1:Nat):Int)=1:=rfl;rw[c1] at pc;obtain⟨P,hP⟩:=aM (ls:=pieces ls) (k:=pi) aa;obtain⟨Q,hQ⟩:=aM (ls:=pieces ls) (k:=qi) aa;obtain⟨V,hV⟩:=aM (ls:=pieces ls) (k:=KC) aa
 obtain⟨W,hW⟩:=aM (ls:=pieces ls) (k:=wi) aa;rw[qD hP,qD hQ,qD hV,qD hW];have hPp:=rG hP;have hQp:=rG hQ;have hVp:=rG hV;have hWp:=rG hW;have aI:pieces ls≠[]:=jl.1 aa;have pcl:=Yc aI aa;have lo:S.lone 9408384256=false:=ah;refine aV c147 ?_;cases one with
 |false=>simp only[go_sem,i147,s183,cU pa yr,cU pb yr];exact⟨aK,rfl⟩
 |true=>
 cases two with
 |false=>simp only[go_sem,i147,s183,cU pa yr,cU pb yr];exact⟨aK,rfl⟩
 |true=>
 cases c2:(KC==wi) with
 |true=>
  have n2:((KC:Int)==(wi:Int))=true:=by simp[show KC=wi by simpa using c2]
  simp only[go_sem,i147,s183,cU pa yr,cU pb yr,n2];exact⟨aK,rfl⟩
 |false=>
 have n2:((KC:Int)==(wi:Int))=false:=by
  have:¬KC=wi:=by simpa using c2
  simp;omega
 cases c3:(V.l.id==W.l.id) with
 |false=>
  have n3:(V.l.id !=W.l.id)=true:=by simp[bne,c3]
  simp only[go_sem,i147,s183,cU pa yr,cU pb yr,n2,hVp,hWp,Pc.ps,n3];exact⟨aK,rfl⟩
 |true=>
 have n3:(V.l.id !=W.l.id)=false:=by simp[bne,c3]
 cases c4:rV F ls 1 [av,bv] av with
 |false=>rw[c4] at pc;simp only[go_sem,i147,s183,cU pa yr,cU pb yr,n2,hVp,hWp,Pc.ps,n3,s184,kW pc];exact⟨aK,rfl⟩
 |true=>
 rw[c4] at pc;simp only[go_sem,i147,s183,cU pa yr,cU pb yr,n2,hVp,hWp,hPp,hQp,Pc.ps,n3,s184,kW pc,s181];refine⟨aK,aK,?_⟩;refine vj pcl lo (.inl rfl) fun cc mF gc te=>?_;have b3:=te 9408000000 ae;simp only[go_sem] at b3;rcases gc with ⟨e,_⟩|⟨_,gg,e,hC⟩
 .exact absurd (by simpa using e) aI
 cases e;rw[cH,cK];have s1:=Kb (pieces ls) pi {P with l:={P.l with aE:=Q.l.aE}};have pI:(pieces ls).set pi {P with l:={P.l with aE:=Q.l.aE}}=iK (pieces ls) pi Q.l.aE:=by unfold iK;rw[cY,hP];rfl
 rw[pI] at s1;have gE:(iK (pieces ls) pi Q.l.aE).length=ls.length:=by rw[Bt,cK]
 obtain⟨Q',hQ'⟩:=aM (ls:=iK (pieces ls) pi Q.l.aE) (k:=qi) aa;have akZ:=rG hQ';have s2:=Kb (iK (pieces ls) pi Q.l.aE) qi {Q' with l:={Q'.l with aE:=P.l.aE}};have iV:(iK (pieces ls) pi Q.l.aE).set qi {Q' with l:={Q'.l with aE:=P.l.aE}}=iK (iK (pieces ls) pi Q.l.aE) qi P.l.aE:=by rw[iK.eq_def (iK (pieces ls) pi Q.l.aE),cY,hQ'];rfl
 rw[iV] at s2;simp only[Pc.ps] at s1 s2;have wR:(iK (iK (pieces ls) pi Q.l.aE) qi P.l.aE).length=ls.length:=by rw[Bt,gE]
 simp only[go_sem,b3,hC,hPp,akZ,Pc.ps,s1,s2,p1,q1];generalize iK (iK (pieces ls) pi Q.l.aE) qi P.l.aE=M at wR ⊢;obtain⟨es,Pz⟩:∃es,es=[av,bv]:=⟨_,rfl⟩;have Ct:es.length=2:=by rw[Pz];rfl
 have kA:∀e∈es,e<ls.length:=fun e he=>by rw[Pz] at he;simp only[cI,iM,or_false] at he;rcases he with rfl|rfl<;>assumption
 refine cJ (fun k ak aj=>ak 0=.one (.p (fO F ls))/\ak 14=.one (.hsl 9408384256 gg 7 0 ls.length)/\(∃ge,ak 116=.one (.hsl 9408512256 ge 1 0 2)/\aj 9408512256=(ge,some (.arr 3 1 (nP es))))/\ak 117=vi ((2:Nat):Int)/\ak 118=vi k/\aj 9408384256=(gg,some (.arr xh 7 (jk (im ls M (es.take k)))))) 0 2 (bj _) ?_ ?_
 .simp only[go_sem];exact⟨⟨_,rfl,by rw[Pz];rfl⟩,rfl,rfl⟩
 rintro k ak aj hk ⟨h0,I1,⟨ge,En,bE⟩,aat,aau,bO⟩
 by_cases aq:k<2
 .have aL:((k:Int)<((2:Nat):Int)):=aa;have PG:k<es.length:=aa;obtain⟨e,he⟩:=aM PG;have Ml:=iF he;have Mj:=kA e (aW he);have pe:=LF g Mj;have w1:=bN (n:=k) aa;have eY:im ls M (es.take (k+1))=gk ls (im ls M (es.take k)) e:=by
   unfold im;rw[iu,he,Av];rfl
  have lT:(im ls M (es.take k)).length=ls.length:=by rw[Bw,wR]
  have hm:=ez (e+1) (show 0<ls.length by omega);generalize im ls M (es.take k)=m at bO eY lT;obtain⟨p,hp⟩:=aM (ls:=m) (k:=e) aa;obtain⟨q,hq⟩:=aM (ls:=m) (k:=(e+1)%ls.length) aa;have jX:=rG hp;have yo:=rG hq;have l1:e<m.length:=aa;have l2:(e+1)%ls.length<m.length:=aa;have s1:=Kb m e q;have Cv:(m.set e q).set ((e+1)%ls.length) p=gk ls m e:=by unfold gk nx;rw[cY,hq,cY,hp];rfl
  have s2:=Kb (m.set e q) ((e+1)%ls.length) p;rw[Cv,<- eY] at s2;simp only[Pc.ps] at s1 s2;obtain⟨q',GP⟩:=aM (ls:=m.set e q) (k:=(e+1)%ls.length) (by rw[tE];omega);have Us:=rG GP;simp only[go_sem,i147_l1,h0,I1,En,aat,aau,bE,bO,aq,aL,Ml,s176,cU pe mw,Mj,hm,jX,yo,Us,s1,s2,Pc.ps,w1];first|exact⟨aK,ge,rfl,rfl⟩|exact⟨aK,⟨ge,rfl,rfl⟩⟩|exact⟨aK,⟨ge,rfl,rfl⟩,rfl⟩|trace_state
 have:k=2:=aa;subst this;have e1:es.take 2=[av,bv]:=by rw[Pz];rfl
 rw[e1] at bO;have jU:¬(((2:Nat):Int)<((2:Nat):Int)):=aa;simp only[go_sem,i147_l1,i147_r2,I1,aat,aau,jU];have h1:(im ls M [av,bv]).length=ls.length:=by rw[Bw,wR]
 refine LZ (.inr ⟨?_,gg,by rw[lZ,cH,h1],bO⟩);intro h2;have:=congrArg List.length h2;rw[lZ,cH,h1,eE] at this;omega
def Q4(l:List Pc)(i:Nat)(g r:Int):List Pc:=l.set i {(l.getD i ⟨kO,false⟩) with l:={(l.getD i ⟨kO,false⟩).l with gate:=g,aE:=r}}
def trR(F:Nat)(ls:List Let)(av:Nat):Option (List Pc):=
 if ((pA ls av).l.kind==1)&&(decide ((pA ls av).l.gate<(F:Int))&&((pA ls av).l.aE==(cg ls (pA ls av).l.gate.toNat:Int)))
 then some (Q4 (Dn (pieces ls) ((pA ls av).l.gate+1) 0 1) av ((pA ls av).l.gate+1) 1) else none
def tlR(ls:List Let)(av:Nat):Option (List Pc):=
 if ((pA ls av).l.kind==1)&&(decide (0<(pA ls av).l.gate)&&((pA ls av).l.aE==1))
 then some (Q4 (Dn (pieces ls) (pA ls av).l.gate 1 (-1)) av ((pA ls av).l.gate-1) ((cg ls ((pA ls av).l.gate-1).toNat+1:Nat):Int)) else none
end
end Go.Abs
