/-
  Corners of a face; a crossing that slides.
-/
import Derived.Test.YtnbfnkckmfibpaaGreatDoorWs
set_option linter.unusedSimpArgs false
set_option linter.unusedVariables false
set_option linter.unusedSectionVars false
set_option maxRecDepth 100000
set_option maxHeartbeats 16000000
namespace Go.Abs
section
variable{F:Nat}{ls:List ae}
abbrev pA(ls:List ae)(i:Nat):Pc:=(pieces ls).getD i ⟨hH,false⟩
theorem iA{i:Nat}{p:Pc}(h:(pieces ls)[i]? =some p):pA ls i=p:=by simp[pA,aap,h]
abbrev nx(ls:List ae)(e:Nat):Nat:=(e+1)%ls.length
def nY(ls:List ae)(e:Nat)(ov:Bool):Bool:=((pA ls e).l.kind==2)&&(((pA ls (nx ls e)).l.kind==2)&&(((pA ls e).l.over==ov)&&((pA ls (nx ls e)).l.over==ov)))
theorem sS(g:bj F ls){e:Nat}(he:e<ls.length)(ov:Bool):aH S 123 [.one (.p (ew F ls)),vi e,vb ov] (rb (nY ls e ov)):=by
 have hlen:=g.len;have TD:=aF ls;have pe:=mE g he;have hm:=aax (e+1) (show 0<ls.length by omega);obtain⟨p,hp⟩:=ao (ls:=pieces ls) (k:=e) (by omega);obtain⟨q,hq⟩:=ao (ls:=pieces ls) (k:=(e+1)%ls.length) (by omega);have Ut:=bR hp;have Wj:=bR hq;unfold nY;rw[iA hp,iA hq];refine aG c123 ?_;cases c1:(p.l.kind==2) with
 |false=>simp only[go_sem,i123,s112,ai pe ak,Ut,Pc.ps,c1]
 |true=>
 cases c2:(q.l.kind==2) with
 |false=>simp only[go_sem,i123,s112,ai pe ak,Ut,Wj,Pc.ps,c1,c2]
 |true=>
 cases c3:(p.l.over==ov) with
 |false=>simp only[go_sem,i123,s112,ai pe ak,Ut,Wj,Pc.ps,c1,c2,c3]
 |true=>
 cases c4:(q.l.over==ov) with
 |false=>simp only[go_sem,i123,s112,ai pe ak,Ut,Wj,Pc.ps,c1,c2,c3,c4]
 |true=>simp only[go_sem,i123,s112,ai pe ak,Ut,Wj,Pc.ps,c1,c2,c3,c4]
def iI(ls:List ae)(e:Nat):Nat × Nat × Bool:=
 if (pA ls e).l.kind==2 then (nx ls e,e,(pA ls (nx ls e)).l.kind==1) else (e,nx ls e,((pA ls e).l.kind==1)&&((pA ls (nx ls e)).l.kind==2))
abbrev Pu(a b c:PV):RV:= .tup [.one (.p a), .one (.p b), .one (.p c)]
theorem eC{Tc:aB}{s:Nat}{a b c:PV}{l:Bool}:land Tc [] s ((Pu a b c).bK l)=some (.tup [.one (.p a), .one (.p b), .one (.p c)],[]):=by
 cases l<;>rfl
theorem Py(g:bj F ls){e:Nat}(he:e<ls.length):aH S 119 [.one (.p (ew F ls)),vi e] (Pu (.int .i64 ((iI ls e).1:Nat)) (.int .i64 ((iI ls e).2.1:Nat)) (.bool (iI ls e).2.2)):=by
 have hlen:=g.len;have TD:=aF ls;have pe:=mE g he;have hm:=aax (e+1) (show 0<ls.length by omega);obtain⟨p,hp⟩:=ao (ls:=pieces ls) (k:=e) (by omega);obtain⟨q,hq⟩:=ao (ls:=pieces ls) (k:=(e+1)%ls.length) (by omega);have Ut:=bR hp;have Wj:=bR hq;unfold iI;rw[iA hp,iA hq];refine aG c119 ?_;cases c1:(p.l.kind==2) with
 |true=>
  have e1:p.l.kind=2:=by simpa using c1
  rw[if_pos rfl];cases c2:(q.l.kind==1) with
  |true=>
   simp only[go_sem,i119,s112,ai pe ak,Ut,Wj,Pc.ps,c1,c2];exact⟨au,rfl⟩
  |false=>
   simp only[go_sem,i119,s112,ai pe ak,Ut,Wj,Pc.ps,c1,c2];exact⟨au,rfl⟩
 |false=>
  rw[if_neg (by decide)];cases c2:(p.l.kind==1) with
  |true=>
   cases c3:(q.l.kind==2) with
   |true=>
    simp only[go_sem,i119,s112,ai pe ak,Ut,Wj,Pc.ps,c1,c2,c3];exact⟨au,rfl⟩
   |false=>
    simp only[go_sem,i119,s112,ai pe ak,Ut,Wj,Pc.ps,c1,c2,c3];exact⟨au,rfl⟩
  |false=>
   simp only[go_sem,i119,s112,ai pe ak,Ut,Pc.ps,c1,c2];exact⟨au,rfl⟩
def MF(o:List Nat)(pr:Nat->Bool)(i:Nat):Bool:=match o[i]? with|some v=>pr v|none=>false
theorem Le(o:List Nat)(hl:o.length<=1000000){f:Nat}{x y z:PV}(hn:x.norm=x/\y.norm=y/\z.norm=z)(T4:S.Tf f=false)(pr:Nat->Bool)(hd: ∀ v∈o,aH S f [vi (v:Nat), .one (.p x), .one (.p y), .one (.p z)] (rb (pr v))):
  aH S 159 [.one (.p (.sl (nP o))), .one (.p (.fn f [] [x,y,z]))] (ri (match (List.range o.length).find? (MF o pr) with|some k=>(k:Int)|none=> -1)):=by
 obtain⟨UY,UH,YW⟩:=hn;refine aG c159 ?_;simp only[go_sem,i159];refine be (fun k env Tc=>env 0= .one (.p (.sl (nP o)))/\env 1= .one (.p (.fn f [] [x,y,z]))/\env 7=vi o.length/\env 8=vi k/\ ∀ j,j<k->MF o pr j=false) 0 o.length (aah _) ?_ ?_
 ·simp only[go_sem];exact⟨rfl,fun j hj=>absurd hj (abl j)⟩
 ·rintro k env Tc hk ⟨h0,h1,h7,h8,hnn⟩
  by_cases Ti:k<o.length
  ·have Tk:((k:Int)<(o.length:Int)):=by omega
   obtain⟨v,hv⟩:=ao Ti;have T1:=cN hv;have w1:=am (n:=k) (by omega);have pd:=hd v (aaf hv);have XI:MF o pr k=pr v:=by simp[MF,hv]
   cases hb:pr v with
   |true=>
    rw[hb] at pd XI;have hf:=fh (p:=MF o pr) Ti hnn XI;simp only[go_sem,i159_l1,h0,h1,h7,h8,Tk,T1,T4,UY,UH,YW,aa pd,hf]
   |false=>
    rw[hb] at pd XI;simp only[go_sem,i159_l1,h0,h1,h7,h8,Ti,Tk,T1,T4,UY,UH,YW,aa pd,w1];intro j hj;rcases aaW.1 hj with h|rfl
    ·exact hnn j h
    ·exact XI
  ·have:k=o.length:=by omega
   subst this;have hf:=eD (p:=MF o pr) hnn;simp only[go_sem,i159_l1,i159_r2,h7,h8,aN,hf]
theorem Dh(o:List Nat)(hl:o.length<=1000000){f:Nat}{x y z:PV}(hn:x.norm=x/\y.norm=y/\z.norm=z)(T4:S.Tf f=false)(pr:Nat->Bool)(hd: ∀ v∈o,aH S f [vi (v:Nat), .one (.p x), .one (.p y), .one (.p z)] (rb (pr v))):
  aH S 146 [.one (.p (.sl (nP o))), .one (.p (.fn f [] [x,y,z]))] (rb (o.any pr)):=by
 have pi:=Le o hl hn T4 pr hd;obtain⟨UY,UH,YW⟩:=hn;refine aG c146 ?_;cases ha:o.any pr with
 |true=>
  obtain⟨v,hv,hp⟩:=acu.1 ha;obtain⟨k,hk⟩:=aaC hv;have T7:=(aag.1 hk).1;cases hf:(List.range o.length).find? (MF o pr) with
  |none=>
   have:=adr.1 hf k (aaE.2 T7);simp[MF,hk,hp] at this
  |some j=>
   rw[hf] at pi;have Va:(0:Int)<=(j:Int):=by omega
   simp only[go_sem,i146,s159,aS pi,Va]
 |false=>
  cases hf:(List.range o.length).find? (MF o pr) with
  |some j=>
   have h1:=List.find?_some hf;unfold MF at h1;cases ho:o[j]? with
   |none=>rw[ho] at h1;cases h1
   |some v=>
    rw[ho] at h1;have:=acp.1 ha v (aaf ho);exact absurd h1 this
  |none=>
   rw[hf] at pi;have Va: ¬ (0:Int)<= -1:=by decide
   simp only[go_sem,i146,s159,aS pi,Va]
def t6(f:Fc)(e:Nat):Nat:=f.Tl.countP fun d=>d/2==e
def tN(f:Fc)(pl:Nat)(edges:List Nat):Bool:=(f.Tl.length==edges.length)&&((f.places.length==pl)&&edges.all fun e=>t6 f e==1)
theorem Hb(g:bj F ls){j:Nat}{f:Fc}(hf:(ay F ls)[j]? =some f)(edges:List Nat)(he:edges.length<=1000)(pl:Nat):
  aH S 147 [vi j, .one (.p (.box [ew F ls])), .one (.p (.box [.sl (nP edges)])), .one (.p (.box [.int .i64 pl]))] (rb (tN f pl edges)):=by
 have hlen:=g.len;have UG:(ah ls).length<=ls.length:=cn ls ls.length;have hdl:=ia g.ok (aaf hf);have U3:nD ls<=1600:=by unfold nD;omega
 have hfp:=wh hf;have hjl:=(aag.1 hf).1;refine aG c147 ?_;unfold tN;cases c1:(f.Tl.length==edges.length) with
 |false=>
  have n1:(((f.Tl.length:Nat):Int)!=((edges.length:Nat):Int))=true:=by
   have: ¬ f.Tl.length=edges.length:=by simpa using c1
   simp[bne];omega
  simp only[go_sem,i147,hfp,Fc.ps,n1]
 |true=>
 have n1:(((f.Tl.length:Nat):Int)!=((edges.length:Nat):Int))=false:=by
  have:f.Tl.length=edges.length:=by simpa using c1
  simp[bne,this]
 cases c2:(f.places.length==pl) with
 |false=>
  have n2:(((f.places.length:Nat):Int)!=((pl:Nat):Int))=true:=by
   have: ¬ f.places.length=pl:=by simpa using c2
   simp[bne];omega
  simp only[go_sem,i147,hfp,Fc.ps,n1,n2]
 |true=>
 have n2:(((f.places.length:Nat):Int)!=((pl:Nat):Int))=false:=by
  have:f.places.length=pl:=by simpa using c2
  simp[bne,this]
 simp only[go_sem,i147,hfp,Fc.ps,n1,n2];refine be (fun k env Tc=>env 6= .one (.Tn 9408064448 1 0)/\Tc 9408064448=(1,some (.var (f.ps.map .p)))/\env 32= .one (.p (.sl (nP edges)))/\env 33=vi edges.length/\env 34=vi k/\ ∀ i e,i<k->edges[i]? =some e->(t6 f e==1)=true) 0 edges.length (aah _) ?_ ?_
 ·simp only[go_sem,Fc.ps];first|exact⟨rfl,fun i e hi=>absurd hi (abl i)⟩|exact⟨rfl,rfl,fun i e hi=>absurd hi (abl i)⟩|exact fun i e hi=>absurd hi (abl i)
 ·rintro k env Tc hk ⟨h6,b6,h32,h33,h34,Tj⟩
  simp only[Fc.ps,aas,aaG] at b6;by_cases Ti:k<edges.length
  ·have Tk:((k:Int)<(edges.length:Int)):=by omega
   obtain⟨e,hek⟩:=ao Ti;have hep:=cN hek;have w1:=am (n:=k) (by omega);simp only[go_sem,i147_l4,h6,b6,h32,h33,h34,Tk,hep];refine be (fun i Tz Tp=>Tz 6= .one (.Tn 9408064448 1 0)/\Tp 9408064448=(1,some (.var (f.ps.map .p)))/\Tz 32= .one (.p (.sl (nP edges)))/\Tz 33=vi edges.length/\Tz 34=vi k/\Tz 8=vi e/\Tz 9=vi ((f.Tl.take i).countP fun d=>d/2==e:Nat)/\Tz 39= .one (.p (.sl (nP f.Tl)))/\Tz 40=vi f.Tl.length/\Tz 41=vi i) 0 f.Tl.length (aah _) ?_ ?_
   ·simp only[go_sem,h6,b6,h32,h33,h34,Fc.ps];first|exact⟨rfl,rfl⟩|exact rfl|exact⟨rfl,rfl,rfl⟩
   ·rintro i Tz Tp hi ⟨p6,d6,p32,p33,p34,p8,p9,p39,p40,p41⟩
    by_cases hli:i<f.Tl.length
    ·have afJ:((i:Int)<(f.Tl.length:Int)):=by omega
     obtain⟨d,hd⟩:=ao hli;have hdp:=cN hd;have w2:=am (n:=i) (by omega);have wq:=wrap_small (n:=d/2) (by have:=rx (aaf hf) d (aaf hd);omega);have Uk:(f.Tl.take i).countP (fun d=>d/2==e)<=i:=aa5 List.countP_le_length (by rw[aaB];omega);have w3:=am (n:=(f.Tl.take i).countP fun d=>d/2==e) (by omega);have YI:(f.Tl.take (i+1)).countP (fun d=>d/2==e)=(f.Tl.take i).countP (fun d=>d/2==e)+if (d/2==e)=true then 1 else 0:=by
      rw[aaX,hd,List.countP_append];simp[abV,List.countP_nil]
     cases Y4:(d/2==e) with
     |true=>
      have n3:(((d/2:Nat):Int)==(e:Int))=true:=by
       have:d/2=e:=by simpa using Y4
       simp;omega
      rw[Y4,if_pos rfl] at YI;simp only[go_sem,i147_l1,p6,p32,p33,p34,p8,p9,p39,p40,p41,hli,afJ,hdp,aT,ch,wq,n3,w2,w3,YI];first|exact d6|exact⟨d6,rfl⟩
     |false=>
      have n3:(((d/2:Nat):Int)==(e:Int))=false:=by
       have: ¬ d/2=e:=by simpa using Y4
       simp;omega
      rw[Y4,if_neg (by decide),ab6] at YI;simp only[go_sem,i147_l1,p6,p32,p33,p34,p8,p9,p39,p40,p41,hli,afJ,hdp,aT,ch,wq,n3,w2,YI];first|exact d6|exact⟨d6,rfl⟩
    ·have:i=f.Tl.length:=by omega
     subst this;rw[aa7] at p9;have hdc:(f.Tl.countP fun d=>d/2==e)=t6 f e:=rfl;rw[hdc] at p9;cases hq:(t6 f e==1) with
     |true=>
      have n4:(((t6 f e:Nat):Int)!=1)=false:=by
       have:t6 f e=1:=by simpa using hq
       simp[bne,this]
      simp only[go_sem,i147_l1,i147_r2,i147_r3,p6,p32,p33,p34,p9,p40,p41,aN,n4,w1,Ti];refine⟨d6,fun i2 e2 hi2 he2=> ?_⟩;rcases aaW.1 hi2 with h|rfl
      ·exact Tj i2 e2 h he2
      ·rw[hek] at he2;cases he2;exact hq
     |false=>
      have n4:(((t6 f e:Nat):Int)!=1)=true:=by
       have: ¬ t6 f e=1:=by simpa using hq
       simp[bne];omega
      have Ty:(edges.all fun e=>t6 f e==1)=false:=List.all_eq_false.2 ⟨e,aaf hek,by rw[hq];decide⟩;simp only[go_sem,i147_l1,i147_r2,p9,p40,p41,aN,n4,Ty]
  ·have:k=edges.length:=by omega
   subst this;have Ty:(edges.all fun e=>t6 f e==1)=true:=aaJ.2 fun e he=>by
    obtain⟨i,hi⟩:=aaC he;exact Tj i e (aag.1 hi).1 hi
   simp only[go_sem,i147_l4,i147_r5,h33,h34,aN,Ty]
def jJ(F:Nat)(ls:List ae)(pl:Nat)(edges:List Nat)(e0:Nat):Bool:=tN (aA F ls (2*e0)) pl edges||tN (aA F ls (2*e0+1)) pl edges
theorem wL(g:bj F ls)(edges:List Nat)(TS:edges.length<=1000){e0:Nat}(h0:edges[0]? =some e0)(he0:e0<ls.length)(pl:Nat):
  aH S 120 [.one (.p (ew F ls)),vi pl, .one (.p (.sl (nP edges)))] (rb (jJ F ls pl edges e0)):=by
 have hlen:=g.len;obtain⟨j0,a1,a2,a3⟩:=sK g (d:=2*e0) (by omega);obtain⟨j1,b1,b2,b3⟩:=sK g (d:=2*e0+1) (by omega);have g0:(ay F ls).getD j0 KG=aA F ls (2*e0):=by rw[aap,a2];rfl
 have g1:(ay F ls).getD j1 KG=aA F ls (2*e0+1):=by rw[aap,b2];rfl
 have pc:=Dh [j0,j1] (by simp) (f:=147) (x:= .box [ew F ls]) (y:= .box [.sl (nP edges)]) (z:= .box [.int .i64 pl]) ⟨rfl,rfl,rfl⟩ s147 (fun j=>tN ((ay F ls).getD j KG) pl edges) (fun v hv=>by
  simp only[aat,abG,or_false] at hv;rcases hv with rfl|rfl
  ·rw[g0];exact Hb g a2 edges TS pl
  ·rw[g1];exact Hb g b2 edges TS pl)
 have aiL:([j0,j1].any fun j=>tN ((ay F ls).getD j KG) pl edges)=jJ F ls pl edges e0:=by
  simp only[List.any_cons,List.any_nil,Bool.or_false,g0,g1];rfl
 rw[aiL] at pc;simp only[aas,aaG] at pc;have ja:=cN a1;have jb:=cN b1;have he:=cN h0;have m2:=bX (a:=e0) (by omega);have m3:=am (n:=2*e0) (by omega);have hll:=lH F ls;have l1:2*e0<(dr F ls).length:=by omega
 have l2:2*e0+1<(dr F ls).length:=by omega
 have T3:0<edges.length:=(aag.1 h0).1;have hpos':(0:Int)<(edges.length:Int):=by omega
 refine aG c120 ?_;simp only[go_sem,i120,he,m2,m3,ja,jb,s146,aw pc];exact au
def Ja(ls:List ae)(l:List Pc)(e:Nat):List Pc:=(l.set e (l.getD (nx ls e) ⟨hH,false⟩)).set (nx ls e) (l.getD e ⟨hH,false⟩)
theorem M3(ls:List ae)(l:List Pc)(e:Nat):(Ja ls l e).length=l.length:=by simp[Ja]
def xr(ls:List ae)(l:List Pc)(es:List Nat):List Pc:=es.foldl (Ja ls) l
theorem oz(ls:List ae): ∀ (es:List Nat) (l:List Pc),(xr ls l es).length=l.length:=by
 intro es
 induction es with
 |nil=>intro l;rfl
 |cons e es ih=>intro l;show(xr ls (Ja ls l e) es).length=_;rw[ih,M3]
theorem Hv(g:bj F ls)(es:List Nat)(UL: ∀ e∈es,e<ls.length)(TS:es.length<=1000):
  aH S 127 [.one (.p (ew F ls)), .one (.p (.sl (nP es)))] (.one (aq fK 7 (dz (xr ls (pieces ls) es)))):=by
 have hlen:=g.len;have TD:=aF ls;have TA:pieces ls≠[]:=abn.1 (by have:=abn.2 g.ne;omega);have pcl:=rI TA (by omega);have lo:S.lone 8128064256=false:=by kernel_rfl
 refine aG c127 ?_;simp only[go_sem,i127,s117];refine fQ pcl lo (.inl rfl) fun cc Ue gc UF=> ?_
 rcases gc with ⟨e,_⟩|⟨_,gg,e,hC⟩
 ·exact absurd (by simpa using e) TA
 ·cases e
  rw[aak,TD];simp only[go_sem];refine be (fun k env Tc=>env 0= .one (.p (ew F ls))/\env 5= .one (.hsl 8128064256 gg 7 0 ls.length)/\env 15= .one (.p (.sl (nP es)))/\env 16=vi es.length/\env 17=vi k/\Tc 8128064256=(gg,some (.arr fK 7 (dz (xr ls (pieces ls) (es.take k)))))) 0 es.length (aah _) ?_ ?_
  ·simp only[go_sem,hC];first|exact⟨rfl,rfl⟩|rfl|exact⟨rfl,rfl,rfl⟩
  ·rintro k env Tc hk ⟨h0,h5,Ww,h16,Y8,bO⟩
   by_cases Ti:k<es.length
   ·have Tk:((k:Int)<(es.length:Int)):=by omega
    obtain⟨e,he⟩:=ao Ti;have hep:=cN he;have abc:=UL e (aaf he);have pe:=mE g abc;have w1:=am (n:=k) (by omega);have Uq:xr ls (pieces ls) (es.take (k+1))=Ja ls (xr ls (pieces ls) (es.take k)) e:=by
     unfold xr;rw[aaX,he,ads];rfl
    have Vi:(xr ls (pieces ls) (es.take k)).length=ls.length:=by rw[oz,TD]
    have hm:=aax (e+1) (show 0<ls.length by omega);generalize xr ls (pieces ls) (es.take k)=m at bO Uq Vi;obtain⟨p,hp⟩:=ao (ls:=m) (k:=e) (by omega);obtain⟨q,hq⟩:=ao (ls:=m) (k:=(e+1)%ls.length) (by omega);have T1:=bR hp;have hqp:=bR hq;have l1:e<m.length:=by omega
    have l2:(e+1)%ls.length<m.length:=by omega
    have s1:=iz m e q;have U1:(m.set e q).set ((e+1)%ls.length) p=Ja ls m e:=by
     unfold Ja nx;rw[aap,hq,aap,hp];rfl
    have s2:=iz (m.set e q) ((e+1)%ls.length) p;rw[U1,<- Uq] at s2;simp only[Pc.ps] at s1 s2;obtain⟨p',UX⟩:=ao (ls:=m.set e q) (k:=e) (by rw[aaD];omega);obtain⟨q',hq'⟩:=ao (ls:=m.set e q) (k:=(e+1)%ls.length) (by rw[aaD];omega);have ad3:=bR hq';simp only[go_sem,i127_l1,h0,h5,Ww,h16,Y8,bO,Ti,Tk,hep,s112,ai pe ak,abc,hm,T1,hqp,ad3,s1,s2,Pc.ps,w1];exact au
   ·have:k=es.length:=by omega
    subst this;rw[aa7] at bO;simp only[go_sem,i127_l1,i127_r2,h5,h16,Y8,aN];have h1:(xr ls (pieces ls) es).length=ls.length:=by rw[oz,TD]
    refine iV (.inr ⟨?_,gg,by rw[aak,h1],bO⟩);intro h2;have:=congrArg List.length h2;rw[aak,h1,aav] at this;have h3:=abn.2 g.ne;omega
def gb(l:List Pc)(i:Nat)(r:Int):List Pc:=l.set i {(l.getD i ⟨hH,false⟩) with l:={(l.getD i ⟨hH,false⟩).l with Th:=r}}
theorem rZ(l:List Pc)(i:Nat)(r:Int):(gb l i r).length=l.length:=by simp[gb]
def Ry(F:Nat)(ls:List ae)(av bv:Nat):Option (List Pc):=
 if (iI ls av).2.2&&((iI ls bv).2.2&&(!((iI ls av).2.1==(iI ls bv).2.1)&&(((pA ls (iI ls av).2.1).l.id==(pA ls (iI ls bv).2.1).l.id)&&jJ F ls 1 [av,bv] av)))
 then some (xr ls (gb (gb (pieces ls) (iI ls av).1 (pA ls (iI ls bv).1).l.Th) (iI ls bv).1 (pA ls (iI ls av).1).l.Th) [av,bv]) else none
theorem z7{e:Nat}(he:e<ls.length):(iI ls e).1<ls.length/\(iI ls e).2.1<ls.length:=by
 have hm:=aax (e+1) (show 0<ls.length by omega);unfold iI nx;split
 ·exact⟨hm,he⟩
 ·exact⟨he,hm⟩
theorem Dr(g:bj F ls){av bv:Nat}(ha:av<ls.length)(hb:bv<ls.length){k c:Int}{l o:Bool}{sg:Int}:
  aH S 77 [.one (.p (ew F ls)),dL k av bv c l o sg] (kR (Ry F ls av bv)):=by
 have hlen:=g.len;have TD:=aF ls;have pa:=Py g ha;have pb:=Py g hb;have pc:=wL g [av,bv] (by simp) (e0:=av) rfl ha 1;obtain⟨p1,v1⟩:=z7 ha;obtain⟨q1,w1⟩:=z7 hb;unfold Ry;generalize iI ls av=x at*;generalize iI ls bv=y at*;obtain⟨pi,vi',one⟩:=x;obtain⟨qi,wi,two⟩:=y;simp only at pa pb p1 v1 q1 w1 ⊢;simp only[aas,aaG] at pc;have c1:((1:Nat):Int)=1:=rfl;rw[c1] at pc;obtain⟨P,hP⟩:=ao (ls:=pieces ls) (k:=pi) (by omega);obtain⟨Q,hQ⟩:=ao (ls:=pieces ls) (k:=qi) (by omega);obtain⟨V,hV⟩:=ao (ls:=pieces ls) (k:=vi') (by omega)
 obtain⟨W,hW⟩:=ao (ls:=pieces ls) (k:=wi) (by omega);rw[iA hP,iA hQ,iA hV,iA hW];have hPp:=bR hP;have hQp:=bR hQ;have hVp:=bR hV;have hWp:=bR hW;have TA:pieces ls≠[]:=abn.1 (by omega);have pcl:=rI TA (by omega);have lo:S.lone 4928384256=false:=by kernel_rfl
 refine aG c77 ?_;cases one with
 |false=>
  simp only[go_sem,i77,s119,ai pa eC,ai pb eC];exact⟨au,rfl⟩
 |true=>
 cases two with
 |false=>
  simp only[go_sem,i77,s119,ai pa eC,ai pb eC];exact⟨au,rfl⟩
 |true=>
 cases c2:(vi'==wi) with
 |true=>
  have n2:((vi':Int)==(wi:Int))=true:=by simp[show vi'=wi by simpa using c2]
  simp only[go_sem,i77,s119,ai pa eC,ai pb eC,n2];exact⟨au,rfl⟩
 |false=>
 have n2:((vi':Int)==(wi:Int))=false:=by
  have: ¬ vi'=wi:=by simpa using c2
  simp;omega
 cases c3:(V.l.id==W.l.id) with
 |false=>
  have n3:(V.l.id !=W.l.id)=true:=by simp[bne,c3]
  simp only[go_sem,i77,s119,ai pa eC,ai pb eC,n2,hVp,hWp,Pc.ps,n3];exact⟨au,rfl⟩
 |true=>
 have n3:(V.l.id !=W.l.id)=false:=by simp[bne,c3]
 cases c4:jJ F ls 1 [av,bv] av with
 |false=>
  rw[c4] at pc;simp only[go_sem,i77,s119,ai pa eC,ai pb eC,n2,hVp,hWp,Pc.ps,n3,s120,aw pc];exact⟨au,rfl⟩
 |true=>
 rw[c4] at pc;simp only[go_sem,i77,s119,ai pa eC,ai pb eC,n2,hVp,hWp,hPp,hQp,Pc.ps,n3,s120,aw pc,s117];refine⟨au,au,?_⟩;refine fQ pcl lo (.inl rfl) fun cc Ue gc UF=> ?_
 have b3:=UF 4928000000 (by decide);simp only[go_sem] at b3;rcases gc with ⟨e,_⟩|⟨_,gg,e,hC⟩
 ·exact absurd (by simpa using e) TA
 ·cases e
  rw[aak,TD];have s1:=iz (pieces ls) pi {P with l:={P.l with Th:=Q.l.Th}};have Vz:(pieces ls).set pi {P with l:={P.l with Th:=Q.l.Th}}=gb (pieces ls) pi Q.l.Th:=by
   unfold gb;rw[aap,hP];rfl
  rw[Vz] at s1;have T9:(gb (pieces ls) pi Q.l.Th).length=ls.length:=by rw[rZ,TD]
  obtain⟨Q',hQ'⟩:=ao (ls:=gb (pieces ls) pi Q.l.Th) (k:=qi) (by omega);have aiQ:=bR hQ';have s2:=iz (gb (pieces ls) pi Q.l.Th) qi {Q' with l:={Q'.l with Th:=P.l.Th}};have Ur:(gb (pieces ls) pi Q.l.Th).set qi {Q' with l:={Q'.l with Th:=P.l.Th}}=gb (gb (pieces ls) pi Q.l.Th) qi P.l.Th:=by
   rw[gb.eq_def (gb (pieces ls) pi Q.l.Th),aap,hQ'];rfl
  rw[Ur] at s2;simp only[Pc.ps] at s1 s2;have Wk:(gb (gb (pieces ls) pi Q.l.Th) qi P.l.Th).length=ls.length:=by rw[rZ,T9]
  simp only[go_sem,b3,hC,hPp,aiQ,Pc.ps,s1,s2,p1,q1];generalize gb (gb (pieces ls) pi Q.l.Th) qi P.l.Th=M at Wk ⊢;obtain⟨es,ack⟩: ∃ es,es=[av,bv]:=⟨_,rfl⟩;have Vo:es.length=2:=by rw[ack];rfl
  have UL: ∀ e∈es,e<ls.length:=fun e he=>by
   rw[ack] at he;simp only[aat,abG,or_false] at he;rcases he with rfl|rfl<;>assumption
  refine be (fun k env Tc=>env 0= .one (.p (ew F ls))/\env 14= .one (.hsl 4928384256 gg 7 0 ls.length)/\(∃ ge,env 116= .one (.hsl 4928512256 ge 1 0 2)/\Tc 4928512256=(ge,some (.arr 3 1 (nP es))))/\env 117=vi ((2:Nat):Int)/\env 118=vi k/\Tc 4928384256=(gg,some (.arr fK 7 (dz (xr ls M (es.take k)))))) 0 2 (aah _) ?_ ?_
  ·simp only[go_sem];exact⟨⟨_,rfl,by rw[ack];rfl⟩,rfl,rfl⟩
  ·rintro k env Tc hk ⟨h0,Wp,⟨ge,XP,bE⟩,agf,age,bO⟩
   by_cases Ti:k<2
   ·have Tk:((k:Int)<((2:Nat):Int)):=by omega
    have acb:k<es.length:=by omega
    obtain⟨e,he⟩:=ao acb;have hep:=cN he;have abc:=UL e (aaf he);have pe:=mE g abc;have w1:=am (n:=k) (by omega);have Uq:xr ls M (es.take (k+1))=Ja ls (xr ls M (es.take k)) e:=by
     unfold xr;rw[aaX,he,ads];rfl
    have Vi:(xr ls M (es.take k)).length=ls.length:=by rw[oz,Wk]
    have hm:=aax (e+1) (show 0<ls.length by omega);generalize xr ls M (es.take k)=m at bO Uq Vi;obtain⟨p,hp⟩:=ao (ls:=m) (k:=e) (by omega);obtain⟨q,hq⟩:=ao (ls:=m) (k:=(e+1)%ls.length) (by omega);have T1:=bR hp;have hqp:=bR hq;have l1:e<m.length:=by omega
    have l2:(e+1)%ls.length<m.length:=by omega
    have s1:=iz m e q;have U1:(m.set e q).set ((e+1)%ls.length) p=Ja ls m e:=by
     unfold Ja nx;rw[aap,hq,aap,hp];rfl
    have s2:=iz (m.set e q) ((e+1)%ls.length) p;rw[U1,<- Uq] at s2;simp only[Pc.ps] at s1 s2;obtain⟨q',hq'⟩:=ao (ls:=m.set e q) (k:=(e+1)%ls.length) (by rw[aaD];omega);have ad3:=bR hq';simp only[go_sem,i77_l1,h0,Wp,XP,agf,age,bE,bO,Ti,Tk,hep,s112,ai pe ak,abc,hm,T1,hqp,ad3,s1,s2,Pc.ps,w1];first|exact⟨au,ge,rfl,rfl⟩|exact⟨au,⟨ge,rfl,rfl⟩⟩|exact⟨au,⟨ge,rfl,rfl⟩,rfl⟩|trace_state
   ·have:k=2:=by omega
    subst this;have e1:es.take 2=[av,bv]:=by rw[ack];rfl
    rw[e1] at bO;have Va: ¬ (((2:Nat):Int)<((2:Nat):Int)):=by omega
    simp only[go_sem,i77_l1,i77_r2,Wp,agf,age,Va];have h1:(xr ls M [av,bv]).length=ls.length:=by rw[oz,Wk]
    refine aR (.inr ⟨?_,gg,by rw[aaS,aak,h1],bO⟩);intro h2;have:=congrArg List.length h2;rw[aaS,aak,h1,aav] at this;omega
end
end Go.Abs
