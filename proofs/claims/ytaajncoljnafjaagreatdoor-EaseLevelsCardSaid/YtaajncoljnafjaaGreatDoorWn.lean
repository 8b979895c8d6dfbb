/- A part. -/
import Derived.Test.YtaajncoljnafjaaGreatDoorWh
set_option linter.all false
set_option maxRecDepth 100000
set_option maxHeartbeats 16000000
namespace Go.Abs
section
variable{ls:ai}{F:Nat}
def agT{e:b_}(h:e.length=1):∃x0,e=[x0]:=by
 match e,h with
 |[a],_=>exact⟨a,rfl⟩
def agU{e:b_}(h:e.length=2):∃x0 x1,e=[x0,x1]:=by
 match e,h with
 |[a,b],_=>exact⟨a,b,rfl⟩
structure yK (es fs:s_) (k:Nat):Prop where
 len:fs.length=es.length
 at':∀i,i<es.length->fs[i]?=if i<k\/es.length-1-i<k then es[es.length-1-i]? else es[i]?
def yK.start(es:s_):yK es es 0:=⟨rfl,fun i _=>by rw[au aa]⟩
def yK.step{es fs:s_}{k:Nat}{a b:b_}(h:yK es fs k)(hk:k<es.length-1-k)(ha:es[k]?=some a)(hb:es[es.length-1-k]?=some b):
  fs[k]?=some a/\fs[es.length-1-k]?=some b/\yK es ((fs.set k b).set (es.length-1-k) a) (k+1):=by
 have hlen:=h.len;refine⟨?_,?_,⟨by rw[ux,ux];exact hlen,fun i hi=>?_⟩⟩
 .rw[h.at' k aa,au aa,ha]
 .rw[h.at' _ aa,au aa,hb]
 rw[qZ,ux];by_cases e1:es.length-1-k=i
 .rw[aD e1,aD aa,aD aa,show es.length-1-i=k by omega,ha]
 rw[au e1,qZ];by_cases e2:k=i
 .subst e2;rw[aD rfl,aD aa,aD aa,hb]
 rw[au e2,h.at' i hi];by_cases e3:i<k\/es.length-1-i<k
 .rw[aD e3,aD aa]
 rw[au e3,au aa]
def yK.done{es fs:s_}{k:Nat}(h:yK es fs k)(hk:¬k<es.length-1-k):fs=es.reverse:=by
 refine xL fun i=>?_;rcases P0 i es.length with hi|hi
 .rw[h.at' i hi,TX hi];by_cases e:i<k\/es.length-1-i<k
  .rw[aD e]
  rw[au e,show es.length-1-i=i by omega]
 rw[n9 (by rw[h.len];exact hi),n9 (by rw[og];exact hi)]
def IJ(id ty z:Nat)(es:s_)(c:C)(aj:aC)(v:V)(ao:aC):Prop:=v=.tup []/\grown id ty z es.reverse (.one c) ao/\Kept (· =id) aj ao
def auU{al:Al}{aj:aC}{id ty:Nat}{es:s_}{c:C}(o:es=[]\/al.ok id=true)(hl:es.length<=1000000)(gb:∀e∈es,e.length=1/\ ∀v∈e,v.norm=v)(h:grown id ty 1 es (.one c) aj):
  ∃v ao,jg S 104 [.one c] al aj v ao/\IJ id ty 1 es c aj v ao:=by
 refine nL c104 (iH rfl) ?_;rcases h with⟨rfl,h2⟩|⟨aH,g,h2,hC⟩
 .cases h2;have w0:IntKind.i64.wrap (((0:Nat):Int)-1)= -1:=ae;have hz:¬((0:Int)< -1):=ae;simp only[go_sem,i104,w0];refine dD (fun k ak ao=>k=0/\ak 2=vi 0/\ak 3=vi (-1)/\ao=aj) 0 0 (bY _) ?_ ?_
  .simp only[go_sem]
  rintro k ak ao _ ⟨rfl,h2,h3,rfl⟩
  simp only[go_sem,i104_l1,h2,h3,hz];exact⟨rfl,.inl ⟨rfl,rfl⟩,fun _ _=>rfl⟩
 cases h2;have o:=o.resolve_left aH;have w0:=An (a:=es.length) aa;simp only[go_sem,i104,w0];refine dD (fun k ak ao=>ak 0=.one (.hsl id g 1 0 es.length)/\ak 2=vi k/\ak 3=vi ((es.length:Int)-1-(k:Int))/\ ∃fs,ao id=(g,some (.arr ty 1 fs))/\yK es fs k/\Kept (· =id) aj ao) 0 es.length (bR _) ?_ ?_
 .simp only[go_sem];refine⟨rfl,af,es,hC,yK.start es,Kept.refl _ _⟩
 rintro k ak ao hk ⟨h0,h2,h3,fs,hF,hI,dM⟩
 by_cases aA:k<es.length-1-k
 .have e1:((es.length:Int)-1-(k:Int))=((es.length-1-k:Nat):Int):=aa;rw[e1]at h3;have aM:((k:Int)<((es.length-1-k:Nat):Int)):=aa;have w1:=cU (n:=k) aa;have w2:IntKind.i64.wrap (((es.length-1-k:Nat):Int)-1)=((es.length:Int)-1-((k+1:Nat):Int)):=by
   rw[An aa];omega
  obtain⟨a,ha⟩:=aL (show k<es.length by omega);obtain⟨b,hb⟩:=aL (show es.length-1-k<es.length by omega);obtain⟨fa,fb,yf⟩:=hI.step aA ha hb;obtain⟨la,na⟩:=gb a (aV ha);obtain⟨lb,nb⟩:=gb b (aV hb);obtain⟨x0,rfl⟩:=agT la;obtain⟨y0,rfl⟩:=agT lb;have Ot:=na x0 af;have Ou:=nb y0 af;have zK:=hI.len;have HP:¬(k=es.length-1-k):=aa;have afm:¬(es.length-1-k=k):=aa;have l1:k<fs.length:=aa;have l2:es.length-1-k<fs.length:=aa;have l3:k<es.length:=aa;have l4:es.length-1-k<es.length:=aa;simp only[go_sem,i104_l1,h0,h2,h3,hF,aM,fa,fb,w1,w2,o,l1,l3,l4,HP,Ot,Ou,qZ];refine⟨aJ,_,rfl,yf,?_⟩;exact(dM.eh rfl _).eh rfl _
 have aM:¬((k:Int)<(es.length:Int)-1-(k:Int)):=aa;simp only[go_sem,i104_l1,h2,h3,aM];refine⟨rfl,?_,dM⟩;rw[hI.done aA]at hF;exact .inr ⟨by simpa using aH,g,by rw[og],hF⟩
def auW{al:Al}{aj:aC}{id ty:Nat}{es:s_}{c:C}(o:es=[]\/al.ok id=true)(hl:es.length<=1000000)(gb:∀e∈es,e.length=2/\ ∀v∈e,v.norm=v)(h:grown id ty 2 es (.one c) aj):
  ∃v ao,jg S 103 [.one c] al aj v ao/\IJ id ty 2 es c aj v ao:=by
 refine nL c103 (iH rfl) ?_;rcases h with⟨rfl,h2⟩|⟨aH,g,h2,hC⟩
 .cases h2;have w0:IntKind.i64.wrap (((0:Nat):Int)-1)= -1:=ae;have hz:¬((0:Int)< -1):=ae;simp only[go_sem,i103,w0];refine dD (fun k ak ao=>k=0/\ak 2=vi 0/\ak 3=vi (-1)/\ao=aj) 0 0 (bY _) ?_ ?_
  .simp only[go_sem]
  rintro k ak ao _ ⟨rfl,h2,h3,rfl⟩
  simp only[go_sem,i103_l1,h2,h3,hz];exact⟨rfl,.inl ⟨rfl,rfl⟩,fun _ _=>rfl⟩
 cases h2;have o:=o.resolve_left aH;have w0:=An (a:=es.length) aa;simp only[go_sem,i103,w0];refine dD (fun k ak ao=>ak 0=.one (.hsl id g 2 0 es.length)/\ak 2=vi k/\ak 3=vi ((es.length:Int)-1-(k:Int))/\ ∃fs,ao id=(g,some (.arr ty 2 fs))/\yK es fs k/\Kept (· =id) aj ao) 0 es.length (bR _) ?_ ?_
 .simp only[go_sem];refine⟨rfl,af,es,hC,yK.start es,Kept.refl _ _⟩
 rintro k ak ao hk ⟨h0,h2,h3,fs,hF,hI,dM⟩
 by_cases aA:k<es.length-1-k
 .have e1:((es.length:Int)-1-(k:Int))=((es.length-1-k:Nat):Int):=aa;rw[e1]at h3;have aM:((k:Int)<((es.length-1-k:Nat):Int)):=aa;have w1:=cU (n:=k) aa;have w2:IntKind.i64.wrap (((es.length-1-k:Nat):Int)-1)=((es.length:Int)-1-((k+1:Nat):Int)):=by
   rw[An aa];omega
  obtain⟨a,ha⟩:=aL (show k<es.length by omega);obtain⟨b,hb⟩:=aL (show es.length-1-k<es.length by omega);obtain⟨fa,fb,yf⟩:=hI.step aA ha hb;obtain⟨la,na⟩:=gb a (aV ha);obtain⟨lb,nb⟩:=gb b (aV hb);obtain⟨x0,x1,rfl⟩:=agU la;obtain⟨y0,y1,rfl⟩:=agU lb;have Ot:=na x0 af;have X2:=na x1 af;have Ou:=nb y0 af;have X3:=nb y1 af;have zK:=hI.len;have HP:¬(k=es.length-1-k):=aa;have afm:¬(es.length-1-k=k):=aa;have l1:k<fs.length:=aa;have l2:es.length-1-k<fs.length:=aa;have l3:k<es.length:=aa;have l4:es.length-1-k<es.length:=aa;simp only[go_sem,i103_l1,h0,h2,h3,hF,aM,fa,fb,w1,w2,o,l1,l3,l4,HP,Ot,X2,Ou,X3,qZ];refine⟨aJ,_,rfl,yf,?_⟩;exact(dM.eh rfl _).eh rfl _
 have aM:¬((k:Int)<(es.length:Int)-1-(k:Int)):=aa;simp only[go_sem,i103_l1,h2,h3,aM];refine⟨rfl,?_,dM⟩;rw[hI.done aA]at hF;exact .inr ⟨by simpa using aH,g,by rw[og],hF⟩
def S6{site ty z:Nat}{es:s_}{c:C}{aj:aC}(h:grown site ty z es (.one c) aj):(es=[]/\jF aj (.one c)=[])\/jF aj (.one c)=[site]:=by
 rcases h with⟨h1,h2⟩|⟨h1,g,h2,h3⟩
 .cases h2;exact .inl ⟨h1,Lx⟩
 cases h2;exact .inr (show kr aj 6 (.hsl site g z 0 es.length)=[site]from EG (n:=5) h3)
section
variable {al:Al} {Q:dX} {ak:Env} {aj:aC} {os:h_} {d:w_}
def aeK{f id ty z:Nat}{es:s_}{c:C}(Ye:∀ {al:Al}{aj:aC},es=[]\/al.ok id=true->grown id ty z es (.one c) aj->∃v ao,jg S f [.one c] al aj v ao/\IJ id ty z es c aj v ao)(hs:S.sites f=[f])(hg:grown id ty z es (.one c) aj)(oid:al.ok id=true)(hf:al.fs.contains f=true)
  (hK:∀ao,grown id ty z es.reverse (.one c) ao->(∀i,i≠id->ao i=aj i)->RN S al os Q (put ak d (.tup [])) ao):gP S al (.sc f [.one c]) d os Q ak aj:=by
 refine r5 (P:=IJ id ty z es c aj) (holds_of ?_ ?_) (Ye ?_ hg) ?_
 .show al.fQ ([V.one c].map (jF aj)).flatten=true;rcases S6 hg with⟨_,h⟩|h
  .simp[h,Al.fQ]
  simp[h,Al.fQ,oid]
 .show(S.sites f).all al.fs.contains=true;rw[hs];simp only[nI,qY,hf,yP]
 .rcases S6 hg with⟨h,_⟩|h
  .exact .inl h
  exact .inr (tM (by simp[h]))
 rintro v ao ⟨rfl,h1,h2⟩
 exact hK ao h1 h2
end
def awb:S.sites 103=[103]:=ah
def awa:S.sites 104=[104]:=ah
def Z0(ok:fJ F ls){x:Nat}(h:x<nD ls):aO ls x<nD ls:=TD ok.kI ok.hp h
abbrev u5(id:Nat):Prop:=jw id=76
structure FE (ls:ai) (idS gS idB gB g8 gF:Nat) (sp:m_) (f:Fc) (cd cp cf:C) (aj:aC):Prop where
 bS:aj idS=(gS,some (.arr 4 1 (bP sp)))
 bB:aj idB=(gB,some (.arr 4 1 (bP (DA ls))))
 b8:aj 4864000000=(g8,some (.var [.p (.bool false),.p .nils,.p .nils,.p .nils,.p (.bool false)]))
 bF:aj 4864128448=(gF,some (.var [.p (.bool f.hJ),cd,cp,cf,.p (.bool f.outer)]))
 gd:grown 4864512256 3 1 (nP f.cA) (.one cd) aj
 gp:grown 4864896192 ED 2 (ql f.places) (.one cp) aj
 gf:grown 4864896448 3 1 (nP f.zj) (.one cf) aj
def alk(ok:fJ F ls){f:Fc}{x k:Nat}(hx:x<nD ls)(h:f.cA.length<=k/\f.places.length<=k*(2*F+2)/\f.zj.length<=k*(2*F+2)):(f.add F ls x).cA.length<=k+1/\(f.add F ls x).places.length<=(k+1)*(2*F+2)/\(f.add F ls x).zj.length<=(k+1)*(2*F+2):=by
 obtain⟨i1,i2,i3⟩:=h;rw[Nat.succ_mul];unfold Fc.add;by_cases h:x<2*ls.length
 .rw[aD h];simp only[fS,dI,fe];exact⟨aa,aa,aa⟩
 rw[au h];have hj:(x-2*ls.length)/2<(aG ls).length:=by unfold nD at hx;omega
 have l1:=aid ok hj;have l2:=aic ok hj;refine⟨by simp only;omega,?_,?_⟩
 .simp only[fS];split<;>(try rw[og])<;>omega
 simp only[fS];split<;>(try rw[og])<;>omega
def aoA{al:Al}(ok:fJ F ls)(hF:F<=1000)(okf:∀id,u5 id->al.ok id=true){idS gS idB gB g8 gF d:Nat}(oS:al.ok idS=true)(nS:¬u5 idS)(nB:¬u5 idB)(nSB:idS≠idB)(f1:al.fs.contains 103=true)(f2:al.fs.contains 104=true)(hd:d<2*ls.length){Q:dX}:
  ∀(fuel k x:Nat) (iQ:m_) (f:Fc) (ak:Env) (aj:aC) (cd cp cf:C),ak 0=.one (.p (nN F ls))->ak 2=.one (.hsl idS gS 1 0 (2*ls.length))->ak 8=.one (.aZ 4864000000 g8 0)->ak 9=vi ls.length->ak 10=vi (aG ls).length->ak 11=.one (.aZ 4864128448 gF 0)->ak 12=vi x->
   FE ls idS gS idB gB g8 gF (iQ.take (2*ls.length)) f cd cp cf aj->iQ.length=nD ls->x<nD ls->Inv (aO ls) (nD ls) d iQ x->Aj iQ<fuel->(k+fuel<=5000000)->(f.cA.length<=k/\f.places.length<=k*(2*F+2)/\f.zj.length<=k*(2*F+2))->
   (∀aF ao DC mH DD,aF 8=ak 8->aF 11=ak 11->FE ls idS gS idB gB g8 gF ((fE (aO ls) fuel x iQ).2.take (2*ls.length)) ((fE (aO ls) fuel x iQ).1.foldl (Fc.add F ls) f) DC mH DD ao->(∀id,¬(u5 id\/id=idS)->ao id=aj id)->Q .normal aF ao)->
   W S al (.loop i76_l1) (mY 0 Q) ak aj:=by
 have hl:=ok.hl;have gT:(aG ls).length<=1000000:=oz (xT ls ls.length) hl;have gI:nD ls<=4000000:=by unfold nD;omega
 have m2:=vm (a:=ls.length) aa;have k0:al.ok 4864000000=true:=okf _ rfl;have kF:al.ok 4864128448=true:=okf _ rfl;have kd0:al.ok 4864512192=true:=okf _ rfl;have kd:al.ok 4864512256=true:=okf _ rfl;have kp:al.ok 4864896192=true:=okf _ rfl;have kf:al.ok 4864896448=true:=okf _ rfl;have kr1:al.ok 4864640128=true:=okf _ rfl;have kr2:al.ok 4864640129=true:=okf _ rfl;have hm:=maps ok;intro fuel
 induction fuel with
 |zero=>intro k x iQ f ak aj cd cp cf _ _ _ _ _ _ _ _ _ _ _ h;omega
 |succ fuel ih=>
  intro k x iQ f ak aj cd cp cf h0 h2 h8 h9 fq ie kG hB Kn F9 hi hu hk hlen hq;have hle:=hm.le;obtain⟨l1,l2,l3⟩:=hlen;have apN:k*(2*F+2)<=5000000*2002:=Nat.mul_le_mul aa aa;have KC:=alk ok F9 ⟨l1,l2,l3⟩;unfold fE at hq;have nSi:∀ {a:Nat},u5 a->a≠idS:=fun h e=>nS (e▸h);have nBi:∀ {a:Nat},u5 a->a≠idB:=fun h e=>nB (e▸h);have nF:¬(4864128448=idS):=nSi rfl;refine sK ?_;cases hs:iQ.getD x true with
  |true=>
   have hxd:=hi.i4 hs;have aA:x<2*ls.length:=aa;have aM:((x:Int)<((2*ls.length:Nat):Int)):=aa;rw[hs]at hq;simp only[if_true]at hq;have hb:(iQ.take (2*ls.length))[x]?=some true:=by
    have h1:=ZM aA (show 2*ls.length<=iQ.length by omega);rw[show sn iQ x=true from hs,dC]at h1;have yy:x<(iQ.take (2*ls.length)).length:=by rw[iz];omega
    obtain⟨b,hb⟩:=aL yy;rw[hb]at h1 |-;exact congrArg some h1
   have k9:=tO hb;simp only[go_sem,i76_l1,h0,h2,h9,kG,m2,aM,aA,hB.bS,k9,oS];exact hq _ _ cd cp cf (by simp only[go_sem]) (by simp only[go_sem]) hB (fun _ _=>rfl)
  |false=>
   have En:iQ[x]?=some false:=by
    rw[dC]at hs;cases h1:iQ[x]? with
    |none=>rw[h1]at hs;cases hs
    |some b=>rw[h1]at hs;exact congrArg some hs
   have F6:=Py En;have pt:=acy ok x (by unfold nD at F9;exact F9);have cV:=hi.step hm Kn F9 hs;rw[hs]at hq;simp only[dN,if_false,BD]at hq;by_cases zE:x<2*ls.length
   .have aM:((x:Int)<((2*ls.length:Nat):Int)):=aa;have hb:(iQ.take (2*ls.length))[x]?=some false:=by rw[mA,aD zE];exact En
    have k9:=tO hb;have iE:=Jy (iQ.take (2*ls.length)) x true;rw[ajL]at iE;have Ko:f.add F ls x={f with cA:=f.cA++[x]}:=by unfold Fc.add;rw[aD zE]
    simp only[go_sem,i76_l1,h2,h9,ie,kG,m2,aM,zE,hB.bS,hB.bF,k9,iE,oS,kF,kd0,nF];refine Rm (site:=4864512256) (id:=4864512256) (bytes:=8) (xs:=[[.int .i64 (x:Int)]]) (rd:=[4864512192]) (by simp[kd,kd0]) (hB.gd.of_eq ((bj ae).trans (bj (nSi rfl)))) (by simp[fN,aP]) (.inl rfl) (by simp only[cE,dI,fe];omega) fun c bn hc bK=>?_;have Kt:∀i,i≠4864512192->i≠4864512256->i≠idS->bn i=aj i:=fun i a b c=>(bK i b b).trans ((bj a).trans (bj c))
    have ap7:=(bK idS (nSi rfl).symm (nSi rfl).symm).trans ((bj (nSi rfl).symm).trans Ak);have GX:=(Kt 4864128448 ae ae (nSi rfl)).trans hB.bF;simp only[go_sem,GX,h0,ie,kG,kF,s101,Nq pt];refine ih (k+1) (aO ls x) (iQ.set x true) (f.add F ls x) _ _ c cp cf ?_ ?_ ?_ ?_ ?_ ?_ ?_ ?_ (by rw[ux];exact Kn) (Z0 ok F9) cV aa aa KC ?_
    .simp only[go_sem,h0]
    .simp only[go_sem,h2]
    .simp only[go_sem,h8]
    .simp only[go_sem,h9]
    .simp only[go_sem,fq]
    .simp only[go_sem,ie]
    .simp only[go_sem]
    .rw[Ko];refine⟨?_,?_,?_,Ak,?_,?_,?_⟩
     .exact(bj (nSi rfl).symm).trans ap7
     .exact(bj (nBi rfl).symm).trans ((Kt _ (nBi rfl).symm (nBi rfl).symm nSB.symm).trans hB.bB)
     .exact(bj ae).trans ((Kt _ ae ae (nSi rfl)).trans hB.b8)
     .exact(Ld _ _▸hc.of_eq (bj ae))
     .exact(hB.gp.of_eq (Kt _ ae ae (nSi rfl))).of_eq (bj ae)
     exact(hB.gf.of_eq (Kt _ ae ae (nSi rfl))).of_eq (bj ae)
    intro aF ao DC mH DD q8 Gn zw dM;refine hq aF ao DC mH DD (by rw[q8];simp only[go_sem]) (by rw[Gn];simp only[go_sem]) zw fun id hn=>?_;have a:∀y,u5 y->id≠y:=fun y hy e=>hn (.inl (e▸hy));exact(dM id hn).trans ((bj (a _ rfl)).trans (Kt id (a _ rfl) (a _ rfl) fun e=>hn (.inr e)))
   have hj:(x-2*ls.length)/2<(aG ls).length:=by unfold nD at F9;omega
   have uX:=auY ok hF hj;have lP:=aid ok hj;have lF:=aic ok hj;have yn:¬((x:Int)<((2*ls.length:Nat):Int)):=aa;have ws:=aag (a:=x) (b:=2*ls.length) aa aa;have wq:=wrap_small (n:=(x-2*ls.length)/2) aa;have w2:=IS (a:=(aG ls).length) aa aa;have Rw:((((x-2*ls.length)/2:Nat):Int)==(((aG ls).length-1:Nat):Int))=decide ((x-2*ls.length)/2+1=(aG ls).length):=by
    by_cases h:(x-2*ls.length)/2+1=(aG ls).length
    .rw[Dj h];simp;omega
    rw[E6 h];simp;omega
   have qL:(f.add F ls x).outer=(f.outer||decide ((x-2*ls.length)/2+1=(aG ls).length)):=by unfold Fc.add;rw[au zE]
   have Xw:(f.add F ls x).hJ=f.hJ:=by unfold Fc.add;rw[au zE]
   have XF:(f.add F ls x).cA=f.cA:=by unfold Fc.add;rw[au zE]
   have HV:(f.add F ls x).places=f.places++(if x%2=0 then qU F ls ((x-2*ls.length)/2)else(qU F ls ((x-2*ls.length)/2)).reverse):=by unfold Fc.add;rw[au zE]
   have N5:(f.add F ls x).zj=f.zj++(if x%2=0 then EC F ls ((x-2*ls.length)/2)else(EC F ls ((x-2*ls.length)/2)).reverse):=by unfold Fc.add;rw[au zE]
   generalize f.add F ls x=f' at qL Xw XF HV N5 hq KC;have nW:S.lone 4864640128=false:=ah;have sc1:∀l:v_,((ql l).all fun e=>e.all PV.scalar)=true:=fun l=>by simp[PV.scalar]
   have sc2:∀l:a_,((nP l).all fun e=>e.all PV.scalar)=true:=fun l=>by simp[PV.scalar]
   have hnP:∀l:v_,∀e∈ql l,e.length=2/\ ∀v∈e,v.norm=v:=fun l e he=>by obtain⟨a,_,rfl⟩:=cJ.1 he;exact⟨rfl,fun v hv=>by simp at hv;rcases hv with rfl|rfl<;>rfl⟩
   have hnF:∀l:a_,∀e∈nP l,e.length=1/\ ∀v∈e,v.norm=v:=fun l e he=>by obtain⟨a,_,rfl⟩:=cJ.1 he;exact⟨rfl,fun v hv=>by simp at hv;rcases hv with rfl;rfl⟩
   have tF:S.shared 103=true:=ah;have shI:S.shared 104=true:=ah;have ny:(iQ.set x true).take (2*ls.length)=iQ.take (2*ls.length):=ajK aa;generalize qU F ls ((x-2*ls.length)/2)=PP at*;generalize EC F ls ((x-2*ls.length)/2)=FF at*;simp only[go_sem,i76_l1,h0,h9,kG,m2,yn,ws,wq,eT,fR,s102];refine apc (by simp[kr1,kr2]) uX nW (sc1 _) (sc2 _) fun c e cF hc he hb=>?_;by_cases eF:x%2=0
   .have OA:((x:Int).tmod 2==1)=false:=by rw[jQ,eF];rfl
    rw[aD eF]at HV N5;have hP:=hc;have hE:=he;have DY:∀i,i≠4864640128->i≠4864640129->cF i=aj i:=hb;have bFN:=(DY 4864128448 ae ae).trans hB.bF;simp only[go_sem,eT,OA,bFN,ie,kG,kF];obtain⟨rP,hxP,OF⟩:=hP.elems;refine Hd (site:=4864896192) (id:=4864896192) (bytes:=16) (by rcases OF with rfl|rfl<;>simp[kp,kr1]) (hB.gp.of_eq (DY _ ae ae)) hxP hP.iG (by simp only[cE];omega) fun c2 iR r1 u1 qJ kJ ke=>?_
    have GX:=(kJ 4864128448 ae ae).trans bFN;simp only[go_sem,GX,ie,kF];obtain⟨rE,hxE,OE⟩:=(hE.of_eq (kJ _ ae ae)).elems;refine Hd (site:=4864896448) (id:=4864896448) (bytes:=8) (by rcases OE with rfl|rfl<;>simp[kf,kr2]) (hB.gf.of_eq ((kJ _ ae ae).trans (DY _ ae ae))) hxE hE.iG (by simp only[cE];omega) fun c3 AQ r2 u2 NK FQ uY=>?_
    have MC:=(FQ 4864128448 ae ae).trans GX;have dz:∀i,i≠4864640128->i≠4864640129->i≠4864896192->i≠4864896448->AQ i=aj i:=fun i a b c d=>(FQ i d d).trans ((kJ i c c).trans (DY i a b));have XA:grown 4864896192 ED 2 (ql f'.places) (.one c2) AQ:=by rw[HV,Ls];exact qJ.of_eq (FQ _ ae ae)
    have XB:grown 4864896448 3 1 (nP f'.zj) (.one c3) AQ:=by rw[N5,Ld];exact NK
    clear qJ NK;cases ho:f.outer;all_goals
     rw[ho]at MC;simp only[go_sem,MC,h0,fq,ie,kG,kF,w2,Rw,s101,Nq pt];refine⟨?_,?_⟩
     .rcases OF with rfl|rfl<;>rcases OE with rfl|rfl<;>rcases ke with⟨rfl,rfl⟩|⟨rfl,rfl⟩|⟨rfl,rfl⟩<;>rcases uY with⟨rfl,rfl⟩|⟨rfl,rfl⟩|⟨rfl,rfl⟩<;>kernel_rfl
     refine ih (k+1) (aO ls x) (iQ.set x true) f' _ _ cd c2 c3 ?_ ?_ ?_ ?_ ?_ ?_ ?_ ?_ (by rw[ux];exact Kn) (Z0 ok F9) cV aa aa KC ?_
     .simp only[go_sem,h0]
     .simp only[go_sem,h2]
     .simp only[go_sem,h8]
     .simp only[go_sem,h9]
     .simp only[go_sem,fq]
     .simp only[go_sem,ie]
     .simp only[go_sem]
     .rw[ny];refine⟨?_,?_,?_,?_,?_,?_,?_⟩
      .exact(bj (nSi rfl).symm).trans ((bj (nSi rfl).symm).trans ((bj (nSi rfl).symm).trans ((dz _ (nSi rfl).symm (nSi rfl).symm (nSi rfl).symm (nSi rfl).symm).trans hB.bS)))
      .exact(bj (nBi rfl).symm).trans ((bj (nBi rfl).symm).trans ((bj (nBi rfl).symm).trans ((dz _ (nBi rfl).symm (nBi rfl).symm (nBi rfl).symm (nBi rfl).symm).trans hB.bB)))
      .exact(bj ae).trans ((bj ae).trans ((bj ae).trans ((dz _ ae ae ae ae).trans hB.b8)))
      .rw[Ak,Xw,qL,ho];rfl
      .rw[XF];exact hB.gd.of_eq ((bj ae).trans ((bj ae).trans ((bj ae).trans (dz _ ae ae ae ae))))
      .exact XA.of_eq ((bj ae).trans ((bj ae).trans (bj ae)))
      exact XB.of_eq ((bj ae).trans ((bj ae).trans (bj ae)))
     intro aF ao DC mH DD q8 Gn zw dM;refine hq aF ao DC mH DD (by rw[q8];simp only[go_sem]) (by rw[Gn];simp only[go_sem]) zw fun id hn=>?_;have a:∀y,u5 y->id≠y:=fun y hy e=>hn (.inl (e▸hy));exact(dM id hn).trans ((bj (a _ rfl)).trans ((bj (a _ rfl)).trans ((bj (a _ rfl)).trans (dz id (a _ rfl) (a _ rfl) (a _ rfl) (a _ rfl)))))
   have OA:((x:Int).tmod 2==1)=true:=by rw[jQ,show x%2=1 by omega];rfl
   rw[au eF]at HV N5;simp only[go_sem,eT,OA,kG,tF];refine aeK (f:=103) (fun o h=>auW o (by simp only[cE];omega) (hnP _) h) awb hc kr1 f1 fun bn je bK=>?_;simp only[go_sem,shI];refine aeK (f:=104) (fun o h=>auU o (by simp only[cE];omega) (hnF _) h) awa (he.of_eq (bK _ ae)) kr2 f2 fun gR he1 ig=>?_;have hP:grown 4864640128 ED 2 (ql PP.reverse) (.one c) gR:=by rw[ql,aaw];exact je.of_eq (ig _ ae)
   have hE:grown 4864640129 3 1 (nP FF.reverse) (.one e) gR:=by rw[nP,aaw];exact he1
   have DY:∀i,i≠4864640128->i≠4864640129->gR i=aj i:=fun i a b=>(ig i b).trans ((bK i a).trans (hb i a b));have bFN:=(DY 4864128448 ae ae).trans hB.bF;simp only[go_sem,bFN,ie,kF];obtain⟨rP,hxP,OF⟩:=hP.elems;refine Hd (site:=4864896192) (id:=4864896192) (bytes:=16) (by rcases OF with rfl|rfl<;>simp[kp,kr1]) (hB.gp.of_eq (DY _ ae ae)) hxP hP.iG (by simp only[cE,og];omega) fun c2 iR r1 u1 qJ kJ ke=>?_
   have GX:=(kJ 4864128448 ae ae).trans bFN;simp only[go_sem,GX,ie,kF];obtain⟨rE,hxE,OE⟩:=(hE.of_eq (kJ _ ae ae)).elems;refine Hd (site:=4864896448) (id:=4864896448) (bytes:=8) (by rcases OE with rfl|rfl<;>simp[kf,kr2]) (hB.gf.of_eq ((kJ _ ae ae).trans (DY _ ae ae))) hxE hE.iG (by simp only[cE,og];omega) fun c3 AQ r2 u2 NK FQ uY=>?_
   have MC:=(FQ 4864128448 ae ae).trans GX;have dz:∀i,i≠4864640128->i≠4864640129->i≠4864896192->i≠4864896448->AQ i=aj i:=fun i a b c d=>(FQ i d d).trans ((kJ i c c).trans (DY i a b));have XA:grown 4864896192 ED 2 (ql f'.places) (.one c2) AQ:=by rw[HV,Ls];exact qJ.of_eq (FQ _ ae ae)
   have XB:grown 4864896448 3 1 (nP f'.zj) (.one c3) AQ:=by rw[N5,Ld];exact NK
   clear qJ NK;cases ho:f.outer;all_goals
    rw[ho]at MC;simp only[go_sem,MC,h0,fq,ie,kG,kF,w2,Rw,s101,Nq pt];refine⟨?_,?_⟩
    .rcases OF with rfl|rfl<;>rcases OE with rfl|rfl<;>rcases ke with⟨rfl,rfl⟩|⟨rfl,rfl⟩|⟨rfl,rfl⟩<;>rcases uY with⟨rfl,rfl⟩|⟨rfl,rfl⟩|⟨rfl,rfl⟩<;>kernel_rfl
    refine ih (k+1) (aO ls x) (iQ.set x true) f' _ _ cd c2 c3 ?_ ?_ ?_ ?_ ?_ ?_ ?_ ?_ (by rw[ux];exact Kn) (Z0 ok F9) cV aa aa KC ?_
    .simp only[go_sem,h0]
    .simp only[go_sem,h2]
    .simp only[go_sem,h8]
    .simp only[go_sem,h9]
    .simp only[go_sem,fq]
    .simp only[go_sem,ie]
    .simp only[go_sem]
    .rw[ny];refine⟨?_,?_,?_,?_,?_,?_,?_⟩
     .exact(bj (nSi rfl).symm).trans ((bj (nSi rfl).symm).trans ((bj (nSi rfl).symm).trans ((dz _ (nSi rfl).symm (nSi rfl).symm (nSi rfl).symm (nSi rfl).symm).trans hB.bS)))
     .exact(bj (nBi rfl).symm).trans ((bj (nBi rfl).symm).trans ((bj (nBi rfl).symm).trans ((dz _ (nBi rfl).symm (nBi rfl).symm (nBi rfl).symm (nBi rfl).symm).trans hB.bB)))
     .exact(bj ae).trans ((bj ae).trans ((bj ae).trans ((dz _ ae ae ae ae).trans hB.b8)))
     .rw[Ak,Xw,qL,ho];rfl
     .rw[XF];exact hB.gd.of_eq ((bj ae).trans ((bj ae).trans ((bj ae).trans (dz _ ae ae ae ae))))
     .exact XA.of_eq ((bj ae).trans ((bj ae).trans (bj ae)))
     exact XB.of_eq ((bj ae).trans ((bj ae).trans (bj ae)))
    intro aF ao DC mH DD q8 Gn zw dM;refine hq aF ao DC mH DD (by rw[q8];simp only[go_sem]) (by rw[Gn];simp only[go_sem]) zw fun id hn=>?_;have a:∀y,u5 y->id≠y:=fun y hy e=>hn (.inl (e▸hy));exact(dM id hn).trans ((bj (a _ rfl)).trans ((bj (a _ rfl)).trans ((bj (a _ rfl)).trans (dz id (a _ rfl) (a _ rfl) (a _ rfl) (a _ rfl)))))
structure ch (F:Nat) (ls:ai):Prop where
 ok:fJ F ls
 len:ls.length<=400
 cr:aq Let.aB ls<=200
 fing:F<=40
 ne:ls≠[]
 first:∃l,ls[0]?=some l/\l.aE=true
 even:aq Let.aE ls%2=0
 bad:∀l∈ls,dQ F l=false
 chk:cG F ls=0
 nw:mQ ls=aq Let.aE ls+aq Let.aB ls/2+2
def qG{f:Int}(h:cG f ls=0)(aH:ls≠[]):∃F:Nat,f=(F:Int)/\ch F ls:=by
 have h0:=h;unfold cG at h;by_cases h1:400<ls.length\/200<aq Let.aB ls
 .rw[aD h1]at h;cases h
 rw[au h1]at h;by_cases h2:f<0\/40<f
 .rw[aD h2]at h;cases h
 rw[au h2,au aH]at h;cases hv:my f ls with
 |false=>rw[hv]at h;simp at h
 |true=>
  obtain⟨F,rfl⟩:=tJ (show 0<=f by omega);refine⟨F,rfl,?_⟩;unfold my at hv;simp only[cH]at hv;obtain⟨⟨⟨v1,v2⟩,v3⟩,v4⟩:=hv;obtain⟨dE,mq,eX⟩:=YJ.1 v3;have sY:∀l∈ls,dQ F l=false:=fun l hl=>by simpa using IZ.1 dE l hl
  have hg:r6 F ls:=fun l hl hp=>((sB hp).1 (sY l hl)).1.1.1;obtain⟨g1,g2⟩:=(Pj hg).1 mq;obtain⟨l0,uT⟩:=aL (jl.2 aH);rw[uT]at v1;exact⟨⟨aa,⟨g1,g2⟩,eX,fun l hl=>wM (sY l hl)⟩,aa,aa,aa,aH,⟨l0,uT,v1⟩,by simpa using v2,sY,h0,by simpa using v4⟩
def ad7(F:Nat)(ls:ai)(idS gS:Nat)(x:Nat)(iQ:m_)(aj:aC)(v:V)(ao:aC):Prop:=
 ∃f cd cp cf,f=((fE (aO ls) (nD ls+1) x iQ).1).foldl (Fc.add F ls) (Fc.new ls x)/\v=.agg [.p (.bool f.hJ),cd,cp,cf,.p (.bool f.outer)]/\ao idS=(gS,some (.arr 4 1 (bP ((fE (aO ls) (nD ls+1) x iQ).2.take (2*ls.length)))))/\
  grown 4864512256 3 1 (nP f.cA) (.one cd) ao/\grown 4864896192 ED 2 (ql f.places) (.one cp) ao/\grown 4864896448 3 1 (nP f.zj) (.one cf) ao/\Kept (fun id=>u5 id\/id=idS) aj ao
def aoC{al:Al}{F:Nat}{ls:ai}(ok:fJ F ls)(hF:F<=1000)(okf:∀id,u5 id->al.ok id=true){idS gS idB gB x:Nat}(oS:al.ok idS=true)(oB:al.ok idB=true)(nS:¬u5 idS)(nB:¬u5 idB)(nSB:idS≠idB)(f1:al.fs.contains 103=true)(f2:al.fs.contains 104=true){iQ:m_}{aj:aC}
  (hx:x<2*ls.length) (Kn:iQ.length=nD ls) (cS:Mq (aO ls) (nD ls) iQ) (hs:iQ.getD x true=false) (bS:aj idS=(gS,some (.arr 4 1 (bP (iQ.take (2*ls.length)))))) (bB:aj idB=(gB,some (.arr 4 1 (bP (DA ls))))):
  ∃v ao,jg S 76 [.one (.p (nN F ls)),vi x,.one (.hsl idS gS 1 0 (2*ls.length)),.one (.hsl idB gB 1 0 ls.length)] al aj v ao/\ad7 F ls idS gS x iQ aj v ao:=by
 have hl:=ok.hl;have gT:(aG ls).length<=ls.length:=xT ls ls.length;have gI:nD ls<=4000000:=by unfold nD;omega
 have k0:al.ok 4864000000=true:=okf _ rfl;have kF:al.ok 4864128448=true:=okf _ rfl;have wq:=wrap_small (n:=x/2) aa;have xn:x/2<ls.length:=aa;have apM:=tO (amf xn);have nSi:∀ {a:Nat},u5 a->a≠idS:=fun h e=>nS (e▸h);have nBi:∀ {a:Nat},u5 a->a≠idB:=fun h e=>nB (e▸h);have nB0:¬(idB=4864000000):=fun e=>nBi rfl e.symm
 have hul:=L1 iQ;refine nL c76 (iH rfl) ?_;simp only[go_sem,i76,bB,nB0,k0,kF,oB,eT,fR,wq,xn,apM];refine⟨aJ,?_⟩;refine aoA ok hF okf (idS:=idS) (gS:=gS) (idB:=idB) (gB:=gB) (g8:=(aj 4864000000).1+1) (gF:=(aj 4864128448).1+1) (d:=x) oS nS nB nSB f1 f2 hx (nD ls+1) 0 x iQ (Fc.new ls x) _ _ (.p .nils) (.p .nils) (.p .nils) ?_ ?_ ?_ ?_ ?_ ?_ ?_ ?_ Kn (by unfold nD;omega) (Inv.start cS hs) aa aa ⟨bY _,bR _,bR _⟩ ?_
 .simp only[go_sem]
 .simp only[go_sem]
 .simp only[go_sem]
 .simp only[go_sem]
 .simp only[go_sem]
 .simp only[go_sem]
 .simp only[go_sem]
 .refine⟨?_,?_,?_,?_,grown.nil,grown.nil,grown.nil⟩
  .simp only[bj (nSi (a:=4864000000) rfl).symm,bj (nSi (a:=4864128448) rfl).symm,bS]
  .simp only[bj (nBi (a:=4864000000) rfl).symm,bj (nBi (a:=4864128448) rfl).symm,bB]
  .simp only[go_sem]
  simp only[go_sem,Fc.new]
 intro aF ao DC mH DD q8 Gn zw dM;simp only[go_sem]at q8 Gn;have h8:=zw.b8;have hf:=zw.bF;simp only[go_sem,i76_r2,q8,Gn,h8,hf,k0,kF];refine⟨_,DC,mH,DD,rfl,rfl,?_,?_,?_,?_,fun id hn=>?_⟩
 .exact(bj (nSi rfl).symm).trans zw.bS
 .exact zw.gd.of_eq (bj ae)
 .exact zw.gp.of_eq (bj ae)
 .exact zw.gf.of_eq (bj ae)
 have a:∀y,u5 y->id≠y:=fun y hy e=>hn (.inl (e▸hy));refine(bj (a _ rfl)).trans ((dM id hn).trans ?_);simp only[bj (a 4864000000 rfl),bj (a 4864128448 rfl)]
def zn{s1 t1 z1:Nat}{es:s_}{c:C}{x:PV}{aj:aC}(h:grown s1 t1 z1 es (.one c) aj):jk aj (.tup [.one c,.one (.p x)])=some (.tup [.one (aW t1 z1 es),.one (.p x)]):=by obtain⟨c',o,hc,h2,h3⟩:=h.jW;cases hc;rcases h3 with rfl|rfl<;>simp[jk,tW,vE,oL,nC,h2,(show Go.Abs.jW aj (.p x)=some (.p x,[],[])from rfl),apart,wx,tE,Bw]
def Zy{aj:aC}{id g g0 z o l ty sz:Nat}{es:s_}(h:aj id=(g0,some (.arr ty sz es))):jF aj (.one (.hsl id g z o l))=[id]:=(EG h:kr aj 6 (.hsl id g z o l)=[id])
def av7:(S.sites 76).contains 76=true:=ah
def av8:(S.sites 76).contains 103=true:=ah
def av9:(S.sites 76).contains 104=true:=ah
def ajJ{S:m_}{n k:Nat}{b:Bool}(hk:k<n)(hn:n<=S.length)(h:S.getD k true=b):(S.take n)[k]?=some b:=by rw[mA,aD hk];rw[dC]at h;obtain⟨c,hc⟩:=aL (show k<S.length by omega);rw[hc]at h |-;exact congrArg some h
def aoF(g:ch F ls):aK S 47 [ez F ls] (.tup [.one (aW BQ 5 (uL (eV F ls))),.one (.p (.int .i64 0))]):=by
 have ok:=g.ok;have hl:=ok.hl;have hF:F<=1000:=by have:=g.fing;omega
 have gT:(aG ls).length<=ls.length:=xT ls ls.length;have hlen:=g.len;have gI:nD ls<=4000000:=by unfold nD;omega
 have h2n:2*ls.length<=nD ls:=by unfold nD;omega
 have pr:=S7 F ls hl;rw[Pl g.chk,au g.ne,qu]at pr;have pb:=amh ok;have hm:=maps ok;have m2:=vm (a:=ls.length) aa;have ll:2*ls.length<=140737488355328:=aa;have vU:List.replicate (2*ls.length) [PV.bool false]=bP ((ef (aO ls) (nD ls) 0).2.take (2*ls.length)):=by show _=bP ((List.replicate (nD ls) false).take (2*ls.length));rw[List.take_replicate,Au h2n];simp
 have hLB:∀aj:aC,land aj [] 3008384064 ((RV.one (.own 4 1 (bP (DA ls)))).gj (S.lone 3008384064))=some (.one (.hsl 3008384064 ((aj 3008384064).1+1) 1 0 ls.length),[(3008384064,((aj 3008384064).1+1,some (.arr 4 1 (bP (DA ls)))))]):=by intro aj;rw[show S.lone 3008384064=false by kernel_rfl];show some (V.one (.hsl 3008384064 ((aj 3008384064).1+1) 1 0 (bP (DA ls)).length),_)=_;rw[show(bP (DA ls)).length=ls.length by simp[vx]];rfl
 have jC:S.shared 76=true:=ah;refine bt c47 ?_;simp only[go_sem,i47,s39,dr pr iM,s75,dr pb (hLB _),m2,ll,vU];refine dD (fun k ak aj=>ak 4=.one (.p (nN F ls))/\ak 7=.one (.hsl 3008320448 1 1 0 (2*ls.length))/\ak 8=.one (.hsl 3008384064 1 1 0 ls.length)/\ak 29=vi ((2*ls.length:Nat):Int)/\ak 30=vi k/\
   aj 3008320448=(1,some (.arr 4 1 (bP ((ef (aO ls) (nD ls) k).2.take (2*ls.length)))))/\aj 3008384064=(1,some (.arr 4 1 (bP (DA ls))))/\
   ∃vo,ak 6=.one vo/\grown 3008704448 BQ 5 (uL ((ef (aO ls) (nD ls) k).1.map (mg F ls))) (.one vo) aj) 0 (2*ls.length) (bR _) ?_ ?_
 .simp only[go_sem];first|exact⟨rfl,rfl,rfl,_,rfl,.inl ⟨rfl,rfl⟩⟩|exact⟨rfl,rfl,_,rfl,.inl ⟨rfl,rfl⟩⟩|exact⟨rfl,_,rfl,.inl ⟨rfl,rfl⟩⟩|exact⟨rfl,rfl,rfl,rfl,_,rfl,.inl ⟨rfl,rfl⟩⟩
 rintro k ak aj hk ⟨h4,h7,h8,h29,h30,bS,bB,vo,h6,go⟩
 by_cases aA:k<2*ls.length
 .have aM:((k:Int)<((2*ls.length:Nat):Int)):=aa;have w1:=cU (n:=k) aa;obtain⟨cS,_⟩:=TK hm k aa;have XQ:=IQ (aO ls) (nD ls) k;have F0:=PB (aO ls) (nD ls) k;have cV:=Am (aO ls) (nD ls) k;generalize hw:ef (aO ls) (nD ls) k=st at*;obtain⟨o,iQ⟩:=st;simp only at cS XQ F0 bS go;unfold wD at cV;cases hs:iQ.getD k true with
  |true=>simp only[hs,if_true]at cV;have hb:=tO (ajJ aA aa hs);simp only[go_sem,i47_l1,h4,h6,h7,h8,h29,h30,bS,bB,aA,aM,hb,w1,cV];exact⟨vo,rfl,go⟩
  |false=>
   simp only[hs,dN,if_false,XQ]at cV;have hb:=tO (ajJ aA aa hs);obtain⟨t,ht⟩:=aj3 (aO ls) (k:=nD ls) hs;have zL:((fE (aO ls) (nD ls+1) k iQ).1).foldl (Fc.add F ls) (Fc.new ls k)=mg F ls (fE (aO ls) (nD ls+1) k iQ).1:=by unfold mg;rw[ht];rfl
   have ft:=aoB (F:=F) (t:=t) aA;rw[<-ht]at ft;simp only[go_sem,i47_l1,h4,h6,h7,h8,h29,h30,bS,bB,aA,aM,hb,jC];have afy:jF aj (.one (.hsl 3008320448 1 1 0 (2*ls.length)))=[3008320448]:=Zy bS;have OH:jF aj (.one (.hsl 3008384064 1 1 0 ls.length))=[3008384064]:=Zy bB;refine r5 (P:=ad7 F ls 3008320448 1 k iQ aj) zR (aoC ok hF (fun id h=>uE (by rw[h];exact av7)) (tM ?_) (tM ?_) ae ae ae ?_ ?_ aA XQ cS hs bS bB) ?_
   .simp only[ek,mT,afy,OH];simp
   .simp only[ek,mT,afy,OH];simp
   .exact av8
   .exact av9
   rintro v cF ⟨f,cd,cp,cf,hf,rfl,bS1,gd,gp,gf,dM⟩
   rw[zL]at hf;rw[<-hf]at ft;have MB:=(dM 3008384064 ae).trans bB;have go1:=go.of_eq (dM 3008704448 ae);have qL:uL (o.map (mg F ls))++[f.ps]=uL ((ef (aO ls) (nD ls) (k+1)).1.map (mg F ls)):=by rw[cV,hf];simp
   have hS2:(ef (aO ls) (nD ls) (k+1)).2=(fE (aO ls) (nD ls+1) k iQ).2:=by rw[cV]
   have aqC:(uL (o.map (mg F ls))).length<=k:=by simpa using F0
   generalize uL (o.map (mg F ls))=outs at go1 qL aqC;have gd0:=gd;rcases gd with⟨e,_⟩|⟨_,gg,e,hbd⟩
   .simp at e;exact absurd e ft
   cases e;simp only[go_sem];rw[cE]at gd0;obtain⟨fr,hx,Ca,HK⟩:=an0 (aj:=eh cF 3008704384 ((cF 3008704384).1+1,some (.jo BQ 5 [[.p (.bool f.hJ),.hsl 4864512256 gg 1 0 f.cA.length,cp,cf,.p (.bool f.outer)]]))) (s:=3008704384) Ak (gd0.of_eq (bj ae)) (gp.of_eq (bj ae)) (gf.of_eq (bj ae));have nf:∀i,i≠4864512256->i≠4864896192->i≠4864896448->i∉fr:=fun i a b c h=>by
    rcases HK i h with h|h|h
    .exact a h
    .exact b h
    exact c h
   refine apa (site:=3008704448) (id:=3008704448) (bytes:=88) (go1.of_eq (bj ae)) hx Ca (nf _ ae ae ae) (nf _ ae ae ae) (.inl rfl) (by simp only[dI,fe];omega) fun c bn hc bK=>?_;have BS':=(bK 3008320448 ae ae (nf _ ae ae ae)).trans ((bj ae).trans bS1);have BB':=(bK 3008384064 ae ae (nf _ ae ae ae)).trans ((bj ae).trans MB);simp only[go_sem,h4,h6,h7,h8,h29,h30,BS',BB',w1,aA,hS2];refine⟨c,rfl,?_⟩;rw[<-qL];exact hc
 have:k=2*ls.length:=aa;subst this;simp only[go_sem,i47_l1,i47_r2,h6,h29,h30,eS];have:=aab hm (nD ls) h2n (bY _);unfold eV gH;rw[this];exact zn go
structure Pc where
 l:Let
 d:Bool
abbrev c_:=List Pc
def Pc.ps(p:Pc):b_:=[.int .i64 p.l.kind,.int .i64 p.l.gate,.int .i64 p.l.aw,.int .i64 p.l.id,.int .i64 p.l.sign,.bool p.l.over,.bool p.d]
abbrev eE(o:c_):s_:=o.map Pc.ps
abbrev nE:Nat:=110
def lQ:Let:=⟨0,0,0,0,0,false⟩
def pieces(ls:ai):c_:=(List.range ls.length).map fun i=>⟨ls.getD i lQ,eN ls i⟩
def eY(ls:ai):(pieces ls).length=ls.length:=by simp[pieces]
def ju{i:Nat}{l:Let}(h:ls[i]?=some l):(pieces ls)[i]?=some ⟨l,eN ls i⟩:=by have:=(aT.1 h).1;simp only[pieces,fG,vp this,nK,dC,h,oE]
def ko{o:c_}{k:Nat}{p:Pc}(h:o[k]?=some p):(eE o)[k]?=some p.ps:=by simp[h]
def qo(L:a_)(ds:a_)(v:Nat):a_:=ds.foldl (fun L d=>L.set d v) L
def rL:q_->Nat->a_->a_
 |[],_,L=>L
 |f::r,j,L=>rL r (j+1) (qo L f.cA j)
def qd(F:Nat)(ls:ai):a_:=rL (eV F ls) 0 (List.replicate (2*ls.length) 0)
def Po(L ds:a_)(v:Nat):(qo L ds v).length=L.length:=by
 induction ds generalizing L with
 |nil=>rfl
 |cons d ds ih=>show(qo (L.set d v) ds v).length=_;rw[ih];simp
def avk(L a b:a_)(v:Nat):qo L (a++b) v=qo (qo L a v) b v:=by simp[qo]
def Su(fs:q_):∀(j:Nat) (L:a_),(rL fs j L).length=L.length:=by
 induction fs with
 |nil=>intro j L;rfl
 |cons f r ih=>intro j L;show(rL r (j+1) _).length=_;rw[ih,Po]
def arQ(a:q_)(f:Fc):∀(j:Nat) (L:a_),rL (a++[f]) j L=qo (rL a j L) f.cA (j+a.length):=by
 induction a with
 |nil=>intro j L;rfl
 |cons g r ih=>intro j L;show rL (r++[f]) (j+1) _=_;rw[ih];simp[rL];congr 1;omega
def alc(F:Nat)(ls:ai):∀(w:a_) (f:Fc),(w.foldl (Fc.add F ls) f).cA=f.cA++w.filter (fun x=>decide (x<2*ls.length)):=by
 intro w
 induction w with
 |nil=>intro f;simp
 |cons x w ih=>
  intro f;rw[BD,ih];unfold Fc.add;by_cases h:x<2*ls.length
  .rw[aD h,akv (by simpa using h)];simp
  rw[au h,TW (by simpa using h)]
def BR(F:Nat)(ls:ai)(w:a_):(mg F ls w).cA=w.filter (fun x=>decide (x<2*ls.length)):=by unfold mg;rw[alc];rfl
def W8{f:Fc}(h:f∈eV F ls):∀d∈f.cA,d<2*ls.length:=by
 obtain⟨w,_,rfl⟩:=cJ.1 h;intro d hd;rw[BR]at hd
 simpa using(uz.1 hd).2
def W9(ok:fJ F ls){f:Fc}(h:f∈eV F ls):f.cA.length<=nD ls:=by obtain⟨w,hw,rfl⟩:=cJ.1 h;rw[BR];exact oz (List.length_filter_le _ _) (PC ok w hw).2.1
def ad6(F:Nat)(ls:ai):(eV F ls).length=mQ ls:=by simp[eV,mQ]
def Xa{o:q_}{k:Nat}{p:Fc}(h:o[k]?=some p):(uL o)[k]?=some p.ps:=by simp[h]
abbrev fp(F:Nat)(ls:ai):PV:=.box [.int .i64 F,.sl (eE (pieces ls)),.sl (uL (eV F ls)),.sl (nP (qd F ls)),.int .i64 (aq Let.aE ls:Nat),.int .i64 ((aq Let.aB ls/2:Nat):Int),.sl (nP (counts ls F))]
abbrev MG(F:Nat)(ls:ai)(pc cf:C):f_:=[.p (.int .i64 F),pc,cf,.hsl 1472256448 1 1 0 (2*ls.length),.p (.int .i64 (aq Let.aE ls:Nat)),.p (.int .i64 ((aq Let.aB ls/2:Nat):Int)),.hsl 1472256960 1 1 0 (F+1)]
def atb{F:Nat}{ls:ai}(g:ch F ls){pc cf:C}{ak:Env}{aj:aC}{Q:dX}(h4:ak 4=.one cf)(h6:ak 6=.one (.aZ 1472257088 1 0))
  (bB:aj 1472257088=(1,some (.var (MG F ls pc cf)))) (bL:aj 1472256448=(1,some (.arr 3 1 (nP (List.replicate (2*ls.length) 0))))) (bC:aj 1472256960=(1,some (.arr 3 1 (nP (counts ls F))))) (gp:grown 1472896448 nE 7 (eE (pieces ls)) (.one pc) aj) (gf:grown 1472064064 BQ 5 (uL (eV F ls)) (.one cf) aj)
  (hq:∀aF ao,aF 6=ak 6->ao 1472257088=(1,some (.var (MG F ls pc cf)))->ao 1472256448=(1,some (.arr 3 1 (nP (qd F ls))))->ao 1472256960=(1,some (.arr 3 1 (nP (counts ls F))))->grown 1472896448 nE 7 (eE (pieces ls)) (.one pc) ao->grown 1472064064 BQ 5 (uL (eV F ls)) (.one cf) ao->W S .all i23_r5 Q aF ao):
  W S .all i23_r6 Q ak aj:=by
 have ok:=g.ok;have hl:=ok.hl;have hlen:=g.len;have gT:(aG ls).length<=ls.length:=xT ls ls.length;have gI:nD ls<=4000000:=by unfold nD;omega
 have zK:(eV F ls).length<=nD ls:=by rw[eV,cE];exact PB (aO ls) (nD ls) _
 obtain⟨g0,XC⟩:∃gg,cf=.hsl 1472064064 gg 5 0 (eV F ls).length:=by
  rcases gf with⟨e,_⟩|⟨_,gg,e,hb⟩
  .have h1:(eV F ls).length=0:=by simpa using congrArg List.length e
   rw[ad6,g.nw]at h1;omega
  cases e;exact⟨gg,by rw[cE]⟩
 have vG:=h4;rw[XC]at vG;simp only[go_sem,i23_r6,vG];refine dD (fun k aF ao=>aF 6=ak 6/\aF 78=.one cf/\aF 79=vi (eV F ls).length/\aF 80=vi k/\ao 1472257088=(1,some (.var (MG F ls pc cf)))/\ao 1472256448=(1,some (.arr 3 1 (nP (rL ((eV F ls).take k) 0 (List.replicate (2*ls.length) 0)))))/\ao 1472256960=(1,some (.arr 3 1 (nP (counts ls F))))/\
   grown 1472896448 nE 7 (eE (pieces ls)) (.one pc) ao/\grown 1472064064 BQ 5 (uL (eV F ls)) (.one cf) ao) 0 (eV F ls).length (bR _) ?_ ?_
 .simp only[go_sem,bB,bL,bC,rL,XC];exact⟨rfl,gp,by first|exact gf|(rw[<-XC];exact gf)⟩
 rintro k aF ao hk ⟨q6,h78,h79,h80,bB,bL,bC,gp,gf⟩
 rw[h6]at q6;by_cases aA:k<(eV F ls).length
 .have aM:((k:Int)<((eV F ls).length:Int)):=aa;obtain⟨f,hf⟩:=aL aA;have HL:=Xa hf;have nT:=aV hf;have hdl:=W9 ok nT;have Kr:=W8 nT;have w1:=cU (n:=k) aa;have ny:rL ((eV F ls).take (k+1)) 0 (List.replicate (2*ls.length) 0)=qo (rL ((eV F ls).take k) 0 (List.replicate (2*ls.length) 0)) f.cA k:=by
   rw[oZ,hf];show rL (_++[f]) 0 _=_;rw[arQ,iz,Au aa,jx]
  have hLl:(rL ((eV F ls).take k) 0 (List.replicate (2*ls.length) 0)).length=2*ls.length:=by rw[Su,aau]
  generalize rL ((eV F ls).take k) 0 (List.replicate (2*ls.length) 0)=L at bL ny hLl;obtain⟨gg,wY,bf⟩:∃gg,cf=.hsl 1472064064 gg 5 0 (uL (eV F ls)).length/\ao 1472064064=(gg,some (.arr BQ 5 (uL (eV F ls)))):=by
   rcases gf with⟨e,_⟩|⟨_,gg,e,hb⟩
   .have:(eV F ls).length=0:=by simpa using congrArg List.length e
    omega
   cases e;exact⟨gg,rfl,hb⟩
  rw[cE]at wY;have Xu:=h78;rw[wY]at Xu;simp only[go_sem,i23_l4,Xu,h79,h80,bf,HL,Fc.ps,aA,aM];refine dD (fun j dy bn=>dy 6=.one (.aZ 1472257088 1 0)/\dy 11=vi k/\dy 78=.one cf/\dy 79=vi (eV F ls).length/\dy 80=vi k/\dy 86=.one (.p (.sl (nP f.cA)))/\dy 87=vi f.cA.length/\dy 88=vi j/\
   bn 1472257088=(1,some (.var (MG F ls pc cf)))/\bn 1472256448=(1,some (.arr 3 1 (nP (qo L (f.cA.take j) k))))/\bn 1472256960=(1,some (.arr 3 1 (nP (counts ls F))))/\grown 1472896448 nE 7 (eE (pieces ls)) (.one pc) bn/\grown 1472064064 BQ 5 (uL (eV F ls)) (.one cf) bn) 0 f.cA.length (bR _) ?_ ?_
  .simp only[go_sem,q6,wY,Xu,h79,h80,bB,bL,bC,qo,aas];refine⟨rfl,gp.of_eq (bj ae),?_⟩;first|exact gf.of_eq (bj ae)|(rw[<-wY];exact gf.of_eq (bj ae))
  rintro j dy bn hj ⟨p6,p11,p78,p79,p80,p86,p87,p88,cB,cL,cC,cp,cg⟩
  by_cases uc:j<f.cA.length
  .have HR:((j:Int)<(f.cA.length:Int)):=aa;obtain⟨d,hd⟩:=aL uc;have lV:=kN hd;have hdb:=Kr d (aV hd);have w2:=cU (n:=j) aa;have iE:(qo L (f.cA.take j) k).set d k=qo L (f.cA.take (j+1)) k:=by rw[oZ,hd,avk];rfl
   have fO:=Le (qo L (f.cA.take j) k) d k;rw[iE]at fO;obtain⟨v0,hv0⟩:=aL (ls:=qo L (f.cA.take j) k) (k:=d) (by rw[Po,hLl];exact hdb);have hv:=kN hv0;simp only[go_sem,i23_l2,p6,p11,p78,p79,p80,p86,p87,p88,cB,cL,cC,uc,HR,lV,hdb,hv,fO,w2];exact⟨cp.of_eq (bj ae),cg.of_eq (bj ae)⟩
  have:j=f.cA.length:=aa;subst this;rw[lJ,<-ny]at cL;simp only[go_sem,i23_l2,i23_r3,p6,p78,p79,p80,p87,p88,cB,cL,cC,eS,w1,aA,h6];exact⟨cp,cg⟩
 have:k=(eV F ls).length:=aa;subst this;rw[lJ]at bL;simp only[go_sem,i23_l4,h79,h80,eS];exact hq _ _ (by simp only[go_sem,q6,h6]) bB bL bC gp gf
def Zi(g:ch F ls):aK S 23 [ez F ls] (Bx (fp F ls) (.int .i64 0)):=by
 have ok:=g.ok;have hl:=ok.hl;have hlen:=g.len;have w8:=g.fing;have pf:=aoF g;have pps:=Zm F ls hl;have CO:=acj F ls hl;have lo:S.lone 1472064064=false:=ah;have m2:=vm (a:=ls.length) aa;have wF:=cU (n:=F) aa;have r1:2*ls.length*8<=140737488355328:=aa;have r2:(F+1)*8<=140737488355328:=aa;have e1:List.replicate (2*ls.length) [PV.int .i64 0]=nP (List.replicate (2*ls.length) 0):=af;have e2:List.replicate (F+1) [PV.int .i64 0]=nP (sT ls F 0):=by rw[UW];simp
 refine bt c23 ?_;simp only[go_sem,i23,s47];refine aeF pf lo fun cf pK wY pM=>?_;have Mz:=pM 1472000000 ae;simp only[go_sem]at Mz;simp only[go_sem,Mz,m2,wF,r1,r2,s48,s49,ir pps,ir CO,e1,e2];refine⟨aJ,?_⟩;have hz:∀j,j≠1472064064->j≠1472000000->pK j=(0,none):=fun j a b=>(pM j a).trans (bj b);have z1:=hz 1472256448 ae ae;have z2:=hz 1472256960 ae ae;have z3:=hz 1472257088 ae ae;refine dD (fun k ak aj=>ak 4=.one cf/\ak 6=.one (.aZ 1472257088 1 0)/\ak 7=vb (dn ls k)/\ak 42=.one (.p (dd ls))/\ak 43=vi ls.length/\ak 44=vi k/\
   aj 1472256448=(1,some (.arr 3 1 (nP (List.replicate (2*ls.length) 0))))/\aj 1472256960=(1,some (.arr 3 1 (nP (sT ls F k))))/\
   ∃pc,aj 1472257088=(1,some (.var (MG F ls pc cf)))/\grown 1472896448 nE 7 (eE ((pieces ls).take k)) (.one pc) aj/\grown 1472064064 BQ 5 (uL (eV F ls)) (.one cf) aj) 0 ls.length (bR _) ?_ ?_
 .simp only[go_sem,z1,z2,z3];refine⟨rfl,rfl,.p .nils,rfl,.inl ⟨rfl,rfl⟩,wY.of_eq ?_⟩;simp only[go_sem]
 rintro k ak aj hk ⟨h4,h6,h7,uP,Nz,NA,bL,bC,pc,bB,gp,gf⟩
 by_cases aA:k<ls.length
 .obtain⟨l,df⟩:=aL aA;have hi:=jf df;have aM:((k:Int)<(ls.length:Int)):=aa;have w1:=cU (n:=k) aa;have yv:=ju df;cases hp:(l.kind==1)with
  |false=>
   have gh:l.aE=false:=hp;have lV:eN ls k=false:=by simp[eN,df,gh]
   rw[lV]at yv;have hd:=MY df gh;have zD:=acf (F:=F) df gh;have ny:eE ((pieces ls).take (k+1))=eE ((pieces ls).take k)++[(Pc.mk l false).ps]:=by rw[oZ,yv];simp
   simp only[go_sem,i23_l1,h6,uP,Nz,NA,hi,Let.ps,aM,hp,bB];refine BO (site:=1472896448) (id:=1472896448) (bytes:=56) (xs:=[(Pc.mk l false).ps]) (rd:=[1472896384]) (gp.of_eq (by simp only[aP,Nat.reduceEqDiff,if_false])) (by simp[fN,aP,Pc.ps]) (.inl rfl) (by simp only[cE,dI,fe,iz,eY];omega) fun c cF r u hc hb hr=>?_;have lW:∀i,i≠1472896448->i≠1472896384->i≠1472576128->i≠1472512128->i≠1472256960->cF i=aj i:=fun i a b c d e=>(hb i a a).trans (by simp only[aP,au b,au c,au d])
   have A9:=(hb 1472256960 ae ae);simp only[aP,Nat.reduceEqDiff,if_false,bC]at A9;have MB:=(lW 1472257088 ae ae ae ae ae).trans bB;have bL1:=(lW 1472256448 ae ae ae ae ae).trans bL;simp only[go_sem,h4,h6,h7,uP,Nz,NA,MB,bL1,A9,w1,hd,zD,aA];refine⟨?_,?_⟩
   .rcases hr with⟨rfl,rfl⟩|⟨rfl,rfl⟩|⟨rfl,rfl⟩<;>kernel_rfl
   refine⟨c,rfl,?_,?_⟩
   .rw[ny];exact hc.of_eq (bj ae)
   exact gf.of_eq ((bj ae).trans (lW _ ae ae ae ae ae))
  |true=>
   have gh:l.aE=true:=hp;have lV:eN ls k=dn ls k:=by simp[eN,df,gh]
   rw[lV]at yv;have hd:=MX df gh;have ny:eE ((pieces ls).take (k+1))=eE ((pieces ls).take k)++[(Pc.mk l (dn ls k)).ps]:=by rw[oZ,yv];simp
   have Bf:=ok.ax.fi l (aV df) gh;obtain⟨G,hG⟩:=tJ Bf.g0;have Kl:G<=F:=by have:=Bf.g1;omega
   have Hw:G<F+1:=aa;have yl:=kN (acd (ls:=ls) (k:=k) Kl);have cS:cg (ls.take k) G<=k:=AR _ _ _;have w2:=cU (n:=cg (ls.take k) G) aa;have s1:=Le (sT ls F k) G (cg (ls.take k) G+1);rw[<-ace df gh hG]at s1;simp only[go_sem,i23_l1,h6,h7,uP,Nz,NA,hi,Let.ps,aM,hp,hG,bB,bC,yl,Hw,w2,s1];refine⟨aJ,?_⟩;refine BO (site:=1472896448) (id:=1472896448) (bytes:=56) (xs:=[(Pc.mk l (dn ls k)).ps]) (rd:=[1472896384]) (gp.of_eq (by simp only[aP,Nat.reduceEqDiff,if_false])) (by simp[fN,aP,Pc.ps,hG]) (.inl rfl) (by simp only[cE,dI,fe,iz,eY];omega) fun c cF r u hc hb hr=>?_
   have lW:∀i,i≠1472896448->i≠1472896384->i≠1472576128->i≠1472512128->i≠1472256960->cF i=aj i:=fun i a b c d e=>(hb i a a).trans (by simp only[aP,au b,au c,au d,au e]);have A9:=(hb 1472256960 ae ae);simp only[aP,Nat.reduceEqDiff,if_false,if_true,bC]at A9;have MB:=(lW 1472257088 ae ae ae ae ae).trans bB;have bL1:=(lW 1472256448 ae ae ae ae ae).trans bL;simp only[go_sem,h4,h6,h7,uP,Nz,NA,MB,bL1,A9,w1,hd,aA];refine⟨?_,?_⟩
   .rcases hr with⟨rfl,rfl⟩|⟨rfl,rfl⟩|⟨rfl,rfl⟩<;>kernel_rfl
   refine⟨c,rfl,?_,?_⟩
   .rw[ny];exact hc.of_eq (bj ae)
   exact gf.of_eq ((bj ae).trans (lW _ ae ae ae ae ae))
 have:k=ls.length:=aa;subst this;rw[gK (by rw[eY];exact bY _)]at gp;rw[UU]at bC;simp only[go_sem,i23_l1,Nz,NA,eS];refine atb g (pc:=pc) (cf:=cf) ?_ ?_ bB bL bC gp gf ?_
 .simp only[go_sem,h4]
 .simp only[go_sem,h6]
 intro aF ao q6 cB cL cC gp' gf';simp only[go_sem,h6]at q6;obtain⟨rp,np,_⟩:=gp'.ZN (n:=4);obtain⟨rf,nf,_⟩:=gf'.ZN (n:=4);have t1:List.take (2*ls.length) (nP (qd F ls))=nP (qd F ls):=gK (by simp[qd,Su]);have t2:List.take (F+1) (nP (counts ls F))=nP (counts ls F):=gK (by simp[counts]);have n1:2*ls.length<=(qd F ls).length:=by simp[qd,Su]
 have n2:F+1<=(counts ls F).length:=by simp[counts]
 simp only[go_sem,i23_r5,q6];simp only[go_sem,jk,tW,vE,oL,nC,jW,cB,cL,cC,np,nf,t1,t2,n1,n2];rfl
def xI{x:Int}(h1: -9223372036854775808<=x)(h2:x<=9223372036854775807):IntKind.i64.wrap x=x:=by
 have e:(2 ^ IntKind.i64.bits:Int)=18446744073709551616:=ae;have e2:(2 ^ (IntKind.i64.bits-1):Int)=9223372036854775808:=ae;unfold IntKind.wrap;simp only[e,e2];by_cases h:0<=x
 .have h3:x%18446744073709551616=x:=aa;rw[h3];have h4:¬x≥9223372036854775808:=aa;simp[h4]
 have h3:x%18446744073709551616=x+18446744073709551616:=aa;rw[h3];have h4:x+18446744073709551616≥9223372036854775808:=aa;have h5:IntKind.i64.signed=true:=rfl;simp[h4,h5]
def awT(l:c_):iG 7 (eE l)=true:=by simp[iG,Pc.ps]
def EI(l:c_):((eE l).all fun e=>e.all PV.scalar)=true:=by simp[Pc.ps,PV.scalar]
abbrev Gb(l x:c_)(k:Nat):c_:=l.take (k+1)++x++l.drop (k+1)
def ah9(a b:c_):eE (a++b)=eE a++eE b:=af
def am0(p:Pc)(t:c_)(hl:(p::t).length<=1000000):aK S 147 [.one (.p (.sl (eE (p::t))))] (.one (aW nE 7 (eE (p::t)))):=by
 have hs:=awT (p::t);have hr:(0+(eE (p::t)).length)*56<=room:=by unfold room;rw[cE];omega
 refine bt c147 ?_;obtain⟨e0,es,hq⟩:∃e0 es,eE (p::t)=e0::es:=⟨_,_,rfl⟩;rw[hq]at hs hr |-;have aH:e0::es≠[]:=af;have te:aW nE 7 (e0::es)=.own nE 7 (e0::es):=au aH;rw[te];unfold room at hr;simp only[jx,dI]at hr;simp only[iG,nI]at hs;simp only[go_sem,i147,gE,iG];simp only[hs,hr,not_true_eq_false,if_true,if_false];simp only[go_sem];exact Lq Ak rfl
def tF(g ab b:Int)(p:Pc):Pc:=if(p.l.kind==1)&&((p.l.gate==g)&&decide (ab<p.l.aw))then{p with l:={p.l with aw:=p.l.aw+b}}else p
abbrev kQ(l:c_)(g ab b:Int):c_:=l.map (tF g ab b)
def ai9(id:Nat)(es:s_)(c:C)(aj:aC)(v:V)(ao:aC):Prop:=v=.tup []/\grown id nE 7 es (.one c) ao/\Kept (· =id) aj ao
def avt{al:Al}{aj:aC}{id:Nat}{l:c_}{c:C}{g ab b:Int}(o:l=[]\/al.ok id=true)(hl:l.length<=1000000)(hb: -100<=b/\b<=100)(hr:∀p∈l,-1000000<=p.l.aw/\p.l.aw<=1000000)(h:grown id nE 7 (eE l) (.one c) aj):
  ∃v ao,jg S 145 [.one c,vi g,vi ab,vi b] al aj v ao/\ai9 id (eE (kQ l g ab b)) c aj v ao:=by
 refine nL c145 (iH rfl) ?_;rcases h with⟨h1,h2⟩|⟨aH,gg,h2,hC⟩
 .cases h2;have hln:l=[]:=by simpa using h1
  subst hln;have hz:¬(((0:Nat):Int)<((0:Nat):Int)):=aa;simp only[go_sem,i145];refine dD (fun k ak ao=>k=0/\ak 10=vi ((0:Nat):Int)/\ak 11=vi ((0:Nat):Int)/\ao=aj) 0 0 (bY _) ?_ ?_
  .simp only[go_sem];exact rfl
  rintro k ak ao _ ⟨rfl,fq,ie,rfl⟩
  simp only[go_sem,i145_l1,fq,ie,hz];exact⟨rfl,.inl ⟨rfl,rfl⟩,fun _ _=>rfl⟩
 cases h2;have o:=o.resolve_left (by simpa using aH);simp only[go_sem,i145];refine dD (fun k ak ao=>ak 0=.one (.hsl id gg 7 0 l.length)/\ak 1=vi g/\ak 2=vi ab/\ak 3=vi b/\ak 10=vi l.length/\ak 11=vi k/\ao id=(gg,some (.arr nE 7 (eE ((kQ (l.take k) g ab b)++l.drop k))))/\Kept (· =id) aj ao) 0 l.length (bR _) ?_ ?_
 .simp only[go_sem,hC];refine⟨?_,?_⟩
  .simp[]
  exact Kept.refl _ _
 rintro k ak ao hk ⟨h0,h1,h2,h3,fq,ie,hF,dM⟩
 by_cases aA:k<l.length
 .have aM:((k:Int)<(l.length:Int)):=aa;obtain⟨p,hp⟩:=aL aA;have w1:=cU (n:=k) aa;obtain⟨r1,r2⟩:=hr p (aV hp);have wr:=xI (x:=p.l.aw+b) aa aa;have Bc:l.drop k=p::l.drop (k+1):=by
   obtain⟨hh,rfl⟩:=aT.1 hp;exact aaq hh
  have hlen:((kQ (l.take k) g ab b)++l.drop k).length=l.length:=by simp[kQ];omega
  have jI:((kQ (l.take k) g ab b)++l.drop k)[k]?=some p:=by
   rw[Aq (by simp[kQ];omega)];have:k-(kQ (l.take k) g ab b).length=0:=by simp[kQ];omega
   rw[this,Bc];rfl
  have iE:((kQ (l.take k) g ab b)++l.drop k).set k (tF g ab b p)=(kQ (l.take (k+1)) g ab b)++l.drop (k+1):=by
   have e1:(kQ (l.take k) g ab b).length=k:=by simp[kQ];omega
   rw[aaz _ _ aa,e1,Mp,Bc,aaA,oZ,hp];simp[kQ]
  have fv:=ko jI;have FY:eE (((kQ (l.take k) g ab b)++l.drop k).set k (tF g ab b p))=(eE ((kQ (l.take k) g ab b)++l.drop k)).set k (tF g ab b p).ps:=by simp[eE,Mi]
  rw[iE]at FY;have Co:tF g ab b p=p->eE ((kQ (l.take k) g ab b)++l.drop k)=eE ((kQ (l.take (k+1)) g ab b)++l.drop (k+1)):=fun e=>by rw[FY,e];obtain⟨hh,he⟩:=aT.1 fv;rw[<-he,akC]
  generalize(kQ (l.take k) g ab b)++l.drop k=m at hF jI fv FY Co hlen;have j8:k<(eE m).length:=by rw[cE];omega
  cases c1:(p.l.kind==1)with
  |false=>have e:=Co (by unfold tF;rw[c1];rfl);simp only[go_sem,i145_l1,h0,h1,h2,h3,fq,ie,hF,fv,Pc.ps,aA,aM,c1,w1,o];exact⟨by rw[e],dM⟩
  |true=>
   cases c2:(p.l.gate==g)with
   |false=>have e:=Co (by unfold tF;rw[c1,c2];rfl);simp only[go_sem,i145_l1,h0,h1,h2,h3,fq,ie,hF,fv,Pc.ps,aA,aM,c1,c2,w1,o];exact⟨by rw[e],dM⟩
   |true=>
    by_cases c3:ab<p.l.aw
    .have e:(tF g ab b p).ps=[.int .i64 p.l.kind,.int .i64 p.l.gate,.int .i64 (p.l.aw+b),.int .i64 p.l.id,.int .i64 p.l.sign,.bool p.l.over,.bool p.d]:=by unfold tF;rw[c1,c2,Dj c3];rfl
     rw[e]at FY;simp only[go_sem,i145_l1,h0,h1,h2,h3,fq,ie,hF,fv,Pc.ps,aA,aM,c1,c2,c3,w1,wr,o];refine⟨?_,?_⟩
     .first|rw[FY]|(rw[FY];rfl)
     exact dM.eh rfl _
    have e:=Co (by unfold tF;rw[c1,c2,E6 c3];rfl);simp only[go_sem,i145_l1,h0,h1,h2,h3,fq,ie,hF,fv,Pc.ps,aA,aM,c1,c2,c3,w1,o];exact⟨by rw[e],dM⟩
 have:k=l.length:=aa;subst this;simp only[go_sem,i145_l1,fq,ie,eS];refine⟨rfl,?_,dM⟩;rw[lJ,Mc,jG]at hF;exact .inr ⟨by simpa using aH,gg,by simp[kQ],hF⟩
def EB(p:Pc):Bool:=(p.l.kind==1)&&p.d
def pdA(l:c_)(i:Nat):Bool:=match l[i]? with|some p=>EB p|none=>false
def Pe{l:c_}{i:Nat}{p:Pc}(h:l[i]?=some p):pdA l i=EB p:=by simp[pdA,h]
def tV(l:c_):w_:=(List.range l.length).find? (pdA l)
def anP(p:Pc):aK S 122 [.agg (p.ps.map .p)] (rb (EB p)):=by
 refine bt c122 ?_;unfold EB;cases h:(p.l.kind==1)with
 |true=>simp only[go_sem,i122,Pc.ps,h]
 |false=>simp only[go_sem,i122,Pc.ps,h]
def aq8(l:c_)(hl:l.length<=1000000):aK S 121 [.one (.p (.sl (eE l))),.one (.p (.fn 122 [] []))] (ri (match tV l with|some k=>(k:Int)|none=> -1)):=by
 refine bt c121 ?_;simp only[go_sem,i121];refine dD (fun k ak aj=>ak 0=.one (.p (.sl (eE l)))/\ak 1=.one (.p (.fn 122 [] []))/\ak 7=vi l.length/\ak 8=vi k/\ ∀j,j<k->pdA l j=false) 0 l.length (bR _) ?_ ?_
 .simp only[go_sem];exact⟨rfl,fun j hj=>absurd hj (o9 j)⟩
 rintro k ak aj hk ⟨h0,h1,h7,h8,hn⟩
 by_cases aA:k<l.length
 .have aM:((k:Int)<(l.length:Int)):=aa;obtain⟨p,hp⟩:=aL aA;have fv:=ko hp;have w1:=cU (n:=k) aa;have pd:=anP p;have oQ:=Pe hp;cases hb:EB p with
  |true=>rw[hb]at pd oQ;have hf:tV l=some k:=DR aA hn oQ;simp only[Pc.ps,ek,kU]at pd;simp only[go_sem,i121_l1,h0,h1,h7,h8,aM,fv,Pc.ps,s122,eD pd,hf]
  |false=>
   rw[hb]at pd oQ;simp only[Pc.ps,ek,kU]at pd;simp only[go_sem,i121_l1,h0,h1,h7,h8,aA,aM,fv,Pc.ps,s122,eD pd,w1];intro j hj;rcases oD.1 hj with h|rfl
   .exact hn j h
   exact oQ
 have:k=l.length:=aa;subst this;have hf:tV l=none:=JZ hn;simp only[go_sem,i121_l1,i121_r2,h7,h8,eS,hf]
abbrev mO:Nat:=45
def xD(l:c_)(ao2 k:Nat):ai:=(List.range k).map fun i=>(l.getD ((ao2+i)%l.length) ⟨lQ,false⟩).l
def au2{l:c_}{f k:Nat}{p:Pc}(h:l[(f+k)%l.length]?=some p):xD l f (k+1)=xD l f k++[p.l]:=by simp[xD,yX,dC,h]
def dO(l:c_):ai:=xD l ((tV l).getD 0) l.length
abbrev dZ(o:ai):s_:=o.map Let.ps
def apx{s1 t1 z1:Nat}{es:s_}{c:C}{x:PV}{aj:aC}(h:grown s1 t1 z1 es (.one c) aj):jk aj (.agg [.p x,c])=some (.agg [.p x,aW t1 z1 es]):=by obtain⟨c',o,hc,h2,h3⟩:=h.jW;cases hc;rcases h3 with rfl|rfl<;>simp[jk,tW,oL,nC,h2,(show Go.Abs.jW aj (.p x)=some (.p x,[],[])from rfl),apart,wx,tE]
def aoK(F:Nat)(l:c_)(hl:l.length<=1000000)(x1 x2 x3 x4 x5 x6:PV):aK S 85 [.one (.p (.box [.int .i64 F,x1,x2,x3,x4,x5,x6])),.one (.p (.sl (eE l)))] (.agg [.p (.int .i64 F),aW mO 6 (dZ (dO l))]):=by
 have px:=aq8 l hl;have hfd:∃f,(tV l).getD 0=f/\(l≠[]->f<l.length):=by
  refine⟨_,rfl,fun aH=>?_⟩;cases h:tV l with
  |none=>exact jl.2 aH
  |some k=>exact im.1 (Jf h)
 obtain⟨f,hf,zK⟩:=hfd;have tm:((tV l=none/\f=0)\/tV l=some f):=by
  cases h:tV l with
  |none=>rw[h]at hf;exact .inl ⟨rfl,hf.symm⟩
  |some k=>rw[h]at hf;exact .inr (congrArg some hf)
 unfold dO;rw[hf];have main:∀(ak:Env) (aj:aC),ak 1=.one (.p (.sl (eE l)))->ak 4=.one (.aZ 5440000000 1 0)->ak 5=.one (.aZ 5440064320 1 0)->ak 6=vi f->ak 17=vi l.length->ak 18=vi ((0:Nat):Int)->aj 5440000000=(1,some (.var [.p (.int .i64 0),.p .nils]))->aj 5440064320=(1,some (.var [.p (.int .i64 F),.p .nils]))->
   W S .all (.loop i85_l1) (mY 0 (Ai S .all i85_r2 (oJ .all [(4,some (some 2))] fun v aj=>jk aj v=some (.agg [.p (.int .i64 F),aW mO 6 (dZ (xD l f l.length))])))) ak aj:=by
  intro ak aj e1 e4 e5 e6 JS JT b0 bO;refine dD (fun k ak aj=>ak 1=.one (.p (.sl (eE l)))/\ak 4=.one (.aZ 5440000000 1 0)/\ak 5=.one (.aZ 5440064320 1 0)/\ak 6=vi f/\ak 17=vi l.length/\ak 18=vi k/\aj 5440000000=(1,some (.var [.p (.int .i64 0),.p .nils]))/\ ∃c,aj 5440064320=(1,some (.var [.p (.int .i64 F),c]))/\grown 5440384832 mO 6 (dZ (xD l f k)) (.one c) aj) 0 l.length (bR _) ⟨e1,e4,e5,e6,JS,JT,b0,.p .nils,bO,.inl ⟨rfl,rfl⟩⟩ ?_;rintro k ak aj hk ⟨h1,h4,h5,h6,jA,iB,b0,c,bO,gc⟩
  by_cases aA:k<l.length
  .have aM:((k:Int)<(l.length:Int)):=aa;have aH:l≠[]:=jl.1 aa;have zK:=zK aH;have w1:=cU (n:=k) aa;have w2:=wrap_add (a:=f) (b:=k) aa;have e2:=xG (f+k) l.length;have hm:=de (f+k) (show 0<l.length by omega);obtain⟨p,hp⟩:=aL hm;have fv:=ko hp;have hz:¬((l.length:Int)=0):=aa;have hr:=au2 hp;have hle:(xD l f k).length=k:=by simp[xD]
   simp only[go_sem,i85_l1,h1,h5,h6,jA,iB,bO,aM,w2,e2,hz,fv,Pc.ps];refine BO (site:=5440384832) (id:=5440384832) (bytes:=48) (xs:=[p.l.ps]) (rd:=[5440384768]) (gc.of_eq (bj ae)) (by simp[fN,aP,Let.ps]) (.inl rfl) (by simp only[cE,hle,dI,fe];omega) fun c' cF r u hc hb hru=>?_;have bO1:=(hb 5440064320 ae ae).trans ((bj ae).trans bO);have b01:=(hb 5440000000 ae ae).trans ((bj ae).trans b0);simp only[go_sem,h1,h4,h5,h6,jA,iB,bO1,b01,aA,w1];refine⟨?_,c',rfl,?_⟩
   .rcases hru with⟨rfl,rfl⟩|⟨rfl,rfl⟩|⟨rfl,rfl⟩<;>kernel_rfl
   rw[hr,dZ,kS];exact hc.of_eq (bj ae)
  have:k=l.length:=aa;subst this;simp only[go_sem,i85_l1,i85_r2,h4,h5,jA,iB,bO,b0,eS];exact apx (gc.of_eq (bj ae))
 refine bt c85 ?_;rcases tm with⟨hn,rfl⟩|hs
 .rw[hn]at px;have Oh:¬((0:Int)< -1):=ae;simp only[go_sem,i85,s121,eW px];exact main _ _ (by simp only[go_sem]) (by simp only[go_sem]) (by simp only[go_sem]) (by simp only[go_sem];rfl) (by simp only[go_sem]) (by simp only[go_sem];rfl) (by simp only[go_sem]) (by simp only[go_sem])
 rw[hs]at px;simp only[go_sem,i85,s121,eW px];exact main _ _ (by simp only[go_sem]) (by simp only[go_sem]) (by simp only[go_sem]) (by simp only[go_sem];split<;>(first|rfl|(congr 1;simp;omega))) (by simp only[go_sem]) (by simp only[go_sem];rfl) (by simp only[go_sem]) (by simp only[go_sem])
def ary:aK S 83 [] (.agg [.p .Aa,.p (.fn 112 [] []),.p (.fn 113 [] []),.p (.fn 114 [] []),.p (.fn 115 [] []),.p (.fn 116 [] []),.p (.fn 117 [] []),.p (.fn 118 [] []),.p (.fn 119 [] []),.p (.fn 120 [] []),.p (.fn 120 [] [])]):=by refine bt c83 ?_;simp only[go_sem,i83];rfl
def mK(k:Int):Int×Int:=if k=2 then(2,0)else if k=5 then(2,1)else if k=7 then(4,2)else(0,0)
def apy(k:Int):aK S 84 [vi k] (.tup [.one (.p (.int .i64 (mK k).1)),.one (.p (.int .i64 (mK k).2))]):=by
 refine bt c84 ?_;unfold mK;by_cases h2:k=2
 .subst h2;simp only[go_sem,i84];rfl
 by_cases h5:k=5
 .subst h5;simp only[go_sem,i84];rfl
 by_cases h7:k=7
 .subst h7;simp only[go_sem,i84];rfl
 rw[au h2,au h5,au h7];have e2:(k==2)=false:=by simpa using h2
 have e5:(k==5)=false:=by simpa using h5
 have e7:(k==7)=false:=by simpa using h7
 simp only[go_sem,i84,e2,e5,e7];rfl
def abO{l:c_}(aH:l≠[])(hl:l.length<=1000000):aK S 147 [.one (.p (.sl (eE l)))] (.one (aW nE 7 (eE l))):=by
 cases l with
 |nil=>exact absurd rfl aH
 |cons p t=>exact am0 p t hl
section
variable {Q:dX} {ak:Env} {aj:aC} {os:h_} {d:w_}
def aeL{id:Nat}{l:c_}{c:C}{g ab b:Int}(hl:l.length<=1000000)(hb: -100<=b/\b<=100)(hr:∀p∈l,-1000000<=p.l.aw/\p.l.aw<=1000000)(hg:grown id nE 7 (eE l) (.one c) aj)
  (hK:∀ao,grown id nE 7 (eE (kQ l g ab b)) (.one c) ao->(∀i,i≠id->ao i=aj i)->RN S .all os Q (put ak d (.tup [])) ao):gP S .all (.sc 145 [.one c,vi g,vi ab,vi b]) d os Q ak aj:=by
 have ho:l=[]\/(allow (S.ctx .all) 145 [.one c,vi g,vi ab,vi b] aj).ok id=true:=by
  rcases S6 hg with⟨h,_⟩|h
  .exact .inl (by simpa using h)
  exact .inr (tM (by simp[h]))
 refine r5 (P:=ai9 id (eE (kQ l g ab b)) c aj) zR (avt ho hl hb hr hg) ?_;rintro v ao ⟨rfl,h1,h2⟩
 exact hK ao h1 h2
end
def arT(fs:q_):∀(j:Nat) (L:a_),∀v∈rL fs j L,v∈L\/v<j+fs.length:=by
 have iE:∀(ds:a_) (L:a_) (x:Nat),∀v∈qo L ds x,v∈L\/v=x:=by
  intro ds
  induction ds with
  |nil=>intro L x v h;exact .inl h
  |cons d ds ih=>
   intro L x v h;rcases ih (L.set d x) x v h with h|h
   .rcases List.mem_or_eq_of_mem_set h with h|h
    .exact .inl h
    exact .inr h
   exact .inr h
 induction fs with
 |nil=>intro j L v h;exact .inl h
 |cons f r ih=>
  intro j L v h;rcases ih (j+1) (qo L f.cA j) v h with h|h
  .rcases iE _ _ _ v h with h|h
   .exact .inl h
   subst h;exact .inr af
  exact .inr (by simp only[dI];omega)
def O3:Fc:=⟨false,[],[],[],false⟩
def lN(F:Nat)(ls:ai)(d:Nat):Fc:=(eV F ls).getD ((qd F ls).getD d 0) O3
def YG(F:Nat)(ls:ai):(qd F ls).length=2*ls.length:=by simp[qd,Su]
def W6(g:ch F ls){d:Nat}(hd:d<2*ls.length):∃j,(qd F ls)[d]?=some j/\(eV F ls)[j]?=some (lN F ls d)/\j<(eV F ls).length:=by
 obtain⟨j,hj⟩:=aL (ls:=qd F ls) (k:=d) (by rw[YG];exact hd);have hn:0<(eV F ls).length:=by rw[ad6,g.nw];omega
 have nQ:j<(eV F ls).length:=by
  rcases arT (eV F ls) 0 _ j (aV hj)with h|h
  .have:=TU h;omega
  omega
 refine⟨j,hj,?_,nQ⟩;obtain⟨f,hf⟩:=aL nQ;unfold lN;rw[dC (l:=qd F ls),hj,oE,dC,hf];rfl
def ahu(b:Nat)(r:Int)(d:Bool):Pc:=⟨⟨1,b,r,0,0,false⟩,d⟩
def Qj(ls:ai)(av b c:Nat)(f:Fc)(side:Bool):c_:=Gb (kQ (pieces ls) b c 2) [ahu b (if f.hJ !=side then((c+2:Nat):Int)else((c+1:Nat):Int)) f.hJ,ahu b (if f.hJ !=side then((c+1:Nat):Int)else((c+2:Nat):Int)) (!f.hJ)] av
def amR(F:Nat)(ls:ai)(av b c:Nat):Option c_:=
 if(b,c)∈(lN F ls (2*av)).places then some (Qj ls av b c (lN F ls (2*av)) false)
 else if(b,c)∈(lN F ls (2*av+1)).places then some (Qj ls av b c (lN F ls (2*av+1)) true)else none
def kR (o:Option c_):RV:=.tup [.one (aW nE 7 (eE (o.getD []))),.one (.p (.bool o.isSome))]
def auC(g:ch F ls):∀p∈pieces ls,-1000000<=p.l.aw/\p.l.aw<=1000000:=by
 intro p hp;obtain⟨i,hi⟩:=gV hp;have zN:i<ls.length:=by rw[<-eY];exact(aT.1 hi).1
 obtain⟨l,hl⟩:=aL zN;rw[ju hl]at hi;cases hi;rcases g.ok.kinds l (aV hl)with h|h
 .have hg:=g.ok.ax.fi l (aV hl) h;have:=hg.r0;have:=hg.r1;have hc:cg ls l.gate.toNat<=ls.length:=sR _ _;have:=g.len;simp only;omega
 have:=(O4 (f:=F) h).1 (g.bad l (aV hl));simp only[this.1.2];omega
def lmR(ls:ai)(av:Nat)(sg:Int)(o:Bool):c_:=Gb (pieces ls) [⟨⟨2,0,0,((aq Let.aB ls/2+1:Nat):Int),sg,o⟩,false⟩,⟨⟨2,0,0,((aq Let.aB ls/2+1:Nat):Int),sg,!o⟩,false⟩] av
def jD(n:Nat)(i:Int):Bool:=decide (0<=i)&&decide (i<(n:Int))
def is_p(i:Int)(n:Nat):aK S 111 [vi i,.one (.p (.box [.int .i64 n]))] (rb (jD n i)):=by
 refine bt c111 ?_;unfold jD;by_cases h1:0<=i
 .by_cases h2:i<(n:Int)
  .simp only[go_sem,i111,h1,h2]
  simp only[go_sem,i111,h1,h2]
 simp only[go_sem,i111,h1]
def LH(l:ai):((dZ l).all fun e=>e.all PV.scalar)=true:=by simp[Let.ps,PV.scalar]
abbrev l7(F:Nat)(L:ai):RV:=.tup [.agg [.p (.int .i64 F),aW mO 6 (dZ L)],.one (.p (.int .i64 0))]
def AZ(F:Nat)(ls:ai)(k:Int):Option c_->RV
 |none=>sD 4
 |some L=>if(400:Int)<(ls.length:Int)+(mK k).1\/(100:Int)<((aq Let.aB ls/2:Nat):Int)+(mK k).2 then sD 7 else l7 F (dO L)
section
variable {h:Nat}
end
section
variable {h:Nat}
end
def Ra(L:c_):(dO L).length=L.length:=by simp[dO,xD]
def Si(l x:c_)(k:Nat):(Gb l x k).length=l.length+x.length:=by simp only[Gb,fS,iz,lH];omega
end
end Go.Abs
