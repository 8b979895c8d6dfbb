/- A part. -/
import Derived.Test.YtfdblnecoamlbaaGreatDoorWh
set_option linter.all false
set_option maxRecDepth 100000
set_option maxHeartbeats 16000000
namespace Go.Abs
section
variable{ls:ai}{F:Nat}
def afE{e:b_}(h:e.length=1):∃x0,e=[x0]:=by
 match e,h with
 |[a],_=>exact⟨a,rfl⟩
def afF{e:b_}(h:e.length=2):∃x0 x1,e=[x0,x1]:=by
 match e,h with
 |[a,b],_=>exact⟨a,b,rfl⟩
structure ya (es fs:s_) (k:Nat):Prop where
 len:fs.length=es.length
 at':∀i,i<es.length->fs[i]?=if i<k\/es.length-1-i<k then es[es.length-1-i]? else es[i]?
def ya.start(es:s_):ya es es 0:=⟨rfl,fun i _=>by rw[ay aa]⟩
def ya.step{es fs:s_}{k:Nat}{a b:b_}(h:ya es fs k)(hk:k<es.length-1-k)(ha:es[k]?=some a)(hb:es[es.length-1-k]?=some b):
  fs[k]?=some a/\fs[es.length-1-k]?=some b/\ya es ((fs.set k b).set (es.length-1-k) a) (k+1):=by
 have hlen:=h.len;refine⟨?_,?_,⟨by rw[ud,ud];exact hlen,fun i hi=>?_⟩⟩
 .rw[h.at' k aa,ay aa,ha]
 .rw[h.at' _ aa,ay aa,hb]
 rw[qT,ud];by_cases e1:es.length-1-k=i
 .rw[aD e1,aD aa,aD aa,show es.length-1-i=k by omega,ha]
 rw[ay e1,qT];by_cases e2:k=i
 .subst e2;rw[aD rfl,aD aa,aD aa,hb]
 rw[ay e2,h.at' i hi];by_cases e3:i<k\/es.length-1-i<k
 .rw[aD e3,aD aa]
 rw[ay e3,ay aa]
def ya.done{es fs:s_}{k:Nat}(h:ya es fs k)(hk:¬k<es.length-1-k):fs=es.reverse:=by
 refine Bb fun i=>?_;rcases Nat.lt_or_ge i es.length with hi|hi
 .rw[h.at' i hi,List.getElem?_reverse hi];by_cases e:i<k\/es.length-1-i<k
  .rw[aD e]
  rw[ay e,show es.length-1-i=i by omega]
 rw[qp (by rw[h.len];exact hi),qp (by rw[oL];exact hi)]
def Ik(id ty z:Nat)(es:s_)(c:C)(aj:aB)(v:V)(ao:aB):Prop:=v=.tup []/\grown id ty z es.reverse (.one c) ao/\Kept (· =id) aj ao
def as4{al:Al}{aj:aB}{id ty:Nat}{es:s_}{c:C}(o:es=[]\/al.ok id=true)(hl:es.length<=1000000)(l6:∀e∈es,e.length=1/\ ∀v∈e,v.norm=v)(h:grown id ty 1 es (.one c) aj):
  ∃v ao,jm S 116 [.one c] al aj v ao/\Ik id ty 1 es c aj v ao:=by
 refine nT c116 (iA rfl) ?_;rcases h with ⟨rfl,h2⟩|⟨aI,g,h2,hC⟩
 .cases h2;have w0:IntKind.i64.wrap (((0:Nat):Int)-1)= -1:=ae;have hz:¬((0:Int)< -1):=ae;simp only[go_sem,i116,w0];refine dy (fun k ak ao=>k=0/\ak 2=vi 0/\ak 3=vi (-1)/\ao=aj) 0 0 (bR _) ?_ ?_
  .simp only[go_sem]
  rintro k ak ao _ ⟨rfl,h2,h3,rfl⟩
  simp only[go_sem,i116_l1,h2,h3,hz];exact⟨rfl,.inl ⟨rfl,rfl⟩,fun _ _=>rfl⟩
 cases h2;have o:=o.resolve_left aI;have w0:=zD (a:=es.length) aa;simp only[go_sem,i116,w0];refine dy (fun k ak ao=>ak 0=.one (.hsl id g 1 0 es.length)/\ak 2=vi k/\ak 3=vi ((es.length:Int)-1-(k:Int))/\ ∃fs,ao id=(g,some (.arr ty 1 fs))/\ya es fs k/\Kept (· =id) aj ao) 0 es.length (bG _) ?_ ?_
 .simp only[go_sem];refine⟨rfl,af,es,hC,ya.start es,Kept.refl _ _⟩
 rintro k ak ao hk ⟨h0,h2,h3,fs,hF,hI,dK⟩
 by_cases aw:k<es.length-1-k
 .have e1:((es.length:Int)-1-(k:Int))=((es.length-1-k:Nat):Int):=aa;rw[e1] at h3;have aL:((k:Int)<((es.length-1-k:Nat):Int)):=aa;have w1:=cS (n:=k) aa;have w2:IntKind.i64.wrap (((es.length-1-k:Nat):Int)-1)=((es.length:Int)-1-((k+1:Nat):Int)):=by
   rw[zD aa];omega
  obtain⟨a,ha⟩:=aM (show k<es.length by omega);obtain⟨b,hb⟩:=aM (show es.length-1-k<es.length by omega);obtain⟨fa,fb,xE⟩:=hI.step aw ha hb;obtain⟨la,na⟩:=l6 a (aV ha);obtain⟨lb,nb⟩:=l6 b (aV hb);obtain⟨x0,rfl⟩:=afE la;obtain⟨y0,rfl⟩:=afE lb;have NG:=na x0 af;have NH:=nb y0 af;have yV:=hI.len;have Hu:¬(k=es.length-1-k):=aa;have ad7:¬(es.length-1-k=k):=aa;have l1:k<fs.length:=aa;have l2:es.length-1-k<fs.length:=aa;have l3:k<es.length:=aa;have l4:es.length-1-k<es.length:=aa;simp only[go_sem,i116_l1,h0,h2,h3,hF,aL,fa,fb,w1,w2,o,l1,l3,l4,Hu,NG,NH,qT];refine⟨aJ,_,rfl,xE,?_⟩;exact(dK.dU rfl _).dU rfl _
 have aL:¬((k:Int)<(es.length:Int)-1-(k:Int)):=aa;simp only[go_sem,i116_l1,h2,h3,aL];refine⟨rfl,?_,dK⟩;rw[hI.done aw] at hF;exact .inr ⟨by simpa using aI,g,by rw[oL],hF⟩
def as6{al:Al}{aj:aB}{id ty:Nat}{es:s_}{c:C}(o:es=[]\/al.ok id=true)(hl:es.length<=1000000)(l6:∀e∈es,e.length=2/\ ∀v∈e,v.norm=v)(h:grown id ty 2 es (.one c) aj):
  ∃v ao,jm S 115 [.one c] al aj v ao/\Ik id ty 2 es c aj v ao:=by
 refine nT c115 (iA rfl) ?_;rcases h with ⟨rfl,h2⟩|⟨aI,g,h2,hC⟩
 .cases h2;have w0:IntKind.i64.wrap (((0:Nat):Int)-1)= -1:=ae;have hz:¬((0:Int)< -1):=ae;simp only[go_sem,i115,w0];refine dy (fun k ak ao=>k=0/\ak 2=vi 0/\ak 3=vi (-1)/\ao=aj) 0 0 (bR _) ?_ ?_
  .simp only[go_sem]
  rintro k ak ao _ ⟨rfl,h2,h3,rfl⟩
  simp only[go_sem,i115_l1,h2,h3,hz];exact⟨rfl,.inl ⟨rfl,rfl⟩,fun _ _=>rfl⟩
 cases h2;have o:=o.resolve_left aI;have w0:=zD (a:=es.length) aa;simp only[go_sem,i115,w0];refine dy (fun k ak ao=>ak 0=.one (.hsl id g 2 0 es.length)/\ak 2=vi k/\ak 3=vi ((es.length:Int)-1-(k:Int))/\ ∃fs,ao id=(g,some (.arr ty 2 fs))/\ya es fs k/\Kept (· =id) aj ao) 0 es.length (bG _) ?_ ?_
 .simp only[go_sem];refine⟨rfl,af,es,hC,ya.start es,Kept.refl _ _⟩
 rintro k ak ao hk ⟨h0,h2,h3,fs,hF,hI,dK⟩
 by_cases aw:k<es.length-1-k
 .have e1:((es.length:Int)-1-(k:Int))=((es.length-1-k:Nat):Int):=aa;rw[e1] at h3;have aL:((k:Int)<((es.length-1-k:Nat):Int)):=aa;have w1:=cS (n:=k) aa;have w2:IntKind.i64.wrap (((es.length-1-k:Nat):Int)-1)=((es.length:Int)-1-((k+1:Nat):Int)):=by
   rw[zD aa];omega
  obtain⟨a,ha⟩:=aM (show k<es.length by omega);obtain⟨b,hb⟩:=aM (show es.length-1-k<es.length by omega);obtain⟨fa,fb,xE⟩:=hI.step aw ha hb;obtain⟨la,na⟩:=l6 a (aV ha);obtain⟨lb,nb⟩:=l6 b (aV hb);obtain⟨x0,x1,rfl⟩:=afF la;obtain⟨y0,y1,rfl⟩:=afF lb;have NG:=na x0 af;have W1:=na x1 af;have NH:=nb y0 af;have W2:=nb y1 af;have yV:=hI.len;have Hu:¬(k=es.length-1-k):=aa;have ad7:¬(es.length-1-k=k):=aa;have l1:k<fs.length:=aa;have l2:es.length-1-k<fs.length:=aa;have l3:k<es.length:=aa;have l4:es.length-1-k<es.length:=aa;simp only[go_sem,i115_l1,h0,h2,h3,hF,aL,fa,fb,w1,w2,o,l1,l3,l4,Hu,NG,W1,NH,W2,qT];refine⟨aJ,_,rfl,xE,?_⟩;exact(dK.dU rfl _).dU rfl _
 have aL:¬((k:Int)<(es.length:Int)-1-(k:Int)):=aa;simp only[go_sem,i115_l1,h2,h3,aL];refine⟨rfl,?_,dK⟩;rw[hI.done aw] at hF;exact .inr ⟨by simpa using aI,g,by rw[oL],hF⟩
def R0{site ty z:Nat}{es:s_}{c:C}{aj:aB}(h:grown site ty z es (.one c) aj):(es=[]/\jN aj (.one c)=[])\/jN aj (.one c)=[site]:=by
 rcases h with ⟨h1,h2⟩|⟨h1,g,h2,h3⟩
 .cases h2;exact .inl ⟨h1,K4⟩
 cases h2;exact .inr (show kJ aj 6 (.hsl site g z 0 es.length)=[site] from DW (n:=5) h3)
section
variable {al:Al} {Q:dO} {ak:Env} {aj:aB} {os:h_} {d:w_}
def adw{f id ty z:Nat}{es:s_}{c:C}(Xd:∀ {al:Al} {aj:aB},es=[]\/al.ok id=true->grown id ty z es (.one c) aj->∃v ao,jm S f [.one c] al aj v ao/\Ik id ty z es c aj v ao)(hs:S.sites f=[f])(hg:grown id ty z es (.one c) aj)(oid:al.ok id=true)(hf:al.fs.contains f=true)
  (hK:∀ao,grown id ty z es.reverse (.one c) ao->(∀i,i≠id->ao i=aj i)->RN S al os Q (put ak d (.tup [])) ao):gP S al (.sc f [.one c]) d os Q ak aj:=by
 refine sR (P:=Ik id ty z es c aj) (holds_of ?_ ?_) (Xd ?_ hg) ?_
 .show al.fP ([V.one c].map (jN aj)).flatten=true;rcases R0 hg with ⟨_,h⟩|h
  .simp[h,Al.fP]
  simp[h,Al.fP,oid]
 .show(S.sites f).all al.fs.contains=true;rw[hs];simp only[mH,pQ,hf,yg]
 .rcases R0 hg with ⟨h,_⟩|h
  .exact .inl h
  exact .inr (tD (by simp[h]))
 rintro v ao ⟨rfl,h1,h2⟩
 exact hK ao h1 h2
end
def aup:S.sites 115=[115]:=ah
def auo:S.sites 116=[116]:=ah
def YU(ok:fA F ls){x:Nat}(h:x<nD ls):aW ls x<nD ls:=SB ok.kQ ok.hp h
abbrev uK(id:Nat):Prop:=jO id=85
structure FE (ls:ai) (idS gS idB gB g8 gF:Nat) (sp:m_) (f:Fc) (cd cp cf:C) (aj:aB):Prop where
 bS:aj idS=(gS,some (.arr 4 1 (bP sp)))
 bB:aj idB=(gB,some (.arr 4 1 (bP (CN ls))))
 b8:aj 5440000000=(g8,some (.var [.p (.bool false),.p .nils,.p .nils,.p .nils,.p (.bool false)]))
 bF:aj 5440128448=(gF,some (.var [.p (.bool f.ie),cd,cp,cf,.p (.bool f.outer)]))
 gd:grown 5440512256 3 1 (nP f.cq) (.one cd) aj
 gp:grown 5440896192 DT 2 (ql f.places) (.one cp) aj
 gf:grown 5440896448 3 1 (nP f.yB) (.one cf) aj
def ajr(ok:fA F ls){f:Fc}{x k:Nat}(hx:x<nD ls)(h:f.cq.length<=k/\f.places.length<=k*(2*F+2)/\f.yB.length<=k*(2*F+2)):(f.add F ls x).cq.length<=k+1/\(f.add F ls x).places.length<=(k+1)*(2*F+2)/\(f.add F ls x).yB.length<=(k+1)*(2*F+2):=by
 obtain⟨i1,i2,i3⟩:=h;rw[Nat.succ_mul];unfold Fc.add;by_cases h:x<2*ls.length
 .rw[aD h];simp only[fS,dC,fe];exact⟨aa,aa,aa⟩
 rw[ay h];have hj:(x-2*ls.length)/2<(aG ls).length:=by unfold nD at hx;omega
 have l1:=agT ok hj;have l2:=agS ok hj;refine⟨by simp only;omega,?_,?_⟩
 .simp only[fS];split<;>(try rw[oL])<;>omega
 simp only[fS];split<;>(try rw[oL])<;>omega
def amH{al:Al}(ok:fA F ls)(hF:F<=1000)(okf:∀id,uK id->al.ok id=true){idS gS idB gB g8 gF d:Nat}(oS:al.ok idS=true)(nS:¬uK idS)(nB:¬uK idB)(nSB:idS≠idB)(f1:al.fs.contains 115=true)(f2:al.fs.contains 116=true)(hd:d<2*ls.length){Q:dO}:
  ∀(fuel k x:Nat) (iQ:m_) (f:Fc) (ak:Env) (aj:aB) (cd cp cf:C),ak 0=.one (.p (nY F ls))->ak 2=.one (.hsl idS gS 1 0 (2*ls.length))->ak 8=.one (.aZ 5440000000 g8 0)->ak 9=vi ls.length->ak 10=vi (aG ls).length->ak 11=.one (.aZ 5440128448 gF 0)->ak 12=vi x->
   FE ls idS gS idB gB g8 gF (iQ.take (2*ls.length)) f cd cp cf aj->iQ.length=nD ls->x<nD ls->Inv (aW ls) (nD ls) d iQ x->zB iQ<fuel->(k+fuel<=5000000)->(f.cq.length<=k/\f.places.length<=k*(2*F+2)/\f.yB.length<=k*(2*F+2))->
   (∀aF ao CR mM CU,aF 8=ak 8->aF 11=ak 11->FE ls idS gS idB gB g8 gF ((fp (aW ls) fuel x iQ).2.take (2*ls.length)) ((fp (aW ls) fuel x iQ).1.foldl (Fc.add F ls) f) CR mM CU ao->(∀id,¬(uK id\/id=idS)->ao id=aj id)->Q .normal aF ao)->
   W S al (.loop i85_l1) (nh 0 Q) ak aj:=by
 have hl:=ok.hl;have gR:(aG ls).length<=1000000:=mY (xv ls ls.length) hl;have iw:nD ls<=4000000:=by unfold nD;omega
 have m2:=u4 (a:=ls.length) aa;have k0:al.ok 5440000000=true:=okf _ rfl;have kF:al.ok 5440128448=true:=okf _ rfl;have kd0:al.ok 5440512192=true:=okf _ rfl;have kd:al.ok 5440512256=true:=okf _ rfl;have kp:al.ok 5440896192=true:=okf _ rfl;have kf:al.ok 5440896448=true:=okf _ rfl;have kr1:al.ok 5440640128=true:=okf _ rfl;have kr2:al.ok 5440640129=true:=okf _ rfl;have hm:=maps ok;intro fuel
 induction fuel with
 |zero=>intro k x iQ f ak aj cd cp cf _ _ _ _ _ _ _ _ _ _ _ h;omega
 |succ fuel ih=>
  intro k x iQ f ak aj cd cp cf h0 h2 h8 h9 ff iu jF hB JR FC hi hu hk hlen hq;have hle:=hm.le;obtain⟨l1,l2,l3⟩:=hlen;have anZ:k*(2*F+2)<=5000000*2002:=Nat.mul_le_mul aa aa;have Hw:=ajr ok FC ⟨l1,l2,l3⟩;unfold fp at hq;have nSi:∀ {a:Nat},uK a->a≠idS:=fun h e=>nS (e▸h);have nBi:∀ {a:Nat},uK a->a≠idB:=fun h e=>nB (e▸h);have nF:¬(5440128448=idS):=nSi rfl;refine sF ?_;cases hs:iQ.getD x true with
  |true=>
   have hxd:=hi.i4 hs;have aw:x<2*ls.length:=aa;have aL:((x:Int)<((2*ls.length:Nat):Int)):=aa;rw[hs] at hq;simp only[if_true] at hq;have hb:(iQ.take (2*ls.length))[x]?=some true:=by
    have h1:=YH aw (show 2*ls.length<=iQ.length by omega);rw[show sn iQ x=true from hs,dA] at h1;have AP:x<(iQ.take (2*ls.length)).length:=by rw[iK];omega
    obtain⟨b,hb⟩:=aM AP;rw[hb] at h1 |-;exact congrArg some h1
   have lD:=tF hb;simp only[go_sem,i85_l1,h0,h2,h9,jF,m2,aL,aw,hB.bS,lD,oS];exact hq _ _ cd cp cf (by simp only[go_sem]) (by simp only[go_sem]) hB (fun _ _=>rfl)
  |false=>
   have DE:iQ[x]?=some false:=by
    rw[dA] at hs;cases h1:iQ[x]? with
    |none=>rw[h1] at hs;cases hs
    |some b=>rw[h1] at hs;exact congrArg some hs
   have Fz:=OO DE;have pt:=abj ok x (by unfold nD at FC;exact FC);have cV:=hi.step hm JR FC hs;rw[hs] at hq;simp only[dN,if_false,Bc] at hq;by_cases yP:x<2*ls.length
   .have aL:((x:Int)<((2*ls.length:Nat):Int)):=aa;have hb:(iQ.take (2*ls.length))[x]?=some false:=by rw[mI,aD yP];exact DE
    have lD:=tF hb;have iG:=Jb (iQ.take (2*ls.length)) x true;rw[aim] at iG;have MX:f.add F ls x={f with cq:=f.cq++[x]}:=by unfold Fc.add;rw[aD yP]
    simp only[go_sem,i85_l1,h2,h9,iu,jF,m2,aL,yP,hB.bS,hB.bF,lD,iG,oS,kF,kd0,nF];refine Qe (site:=5440512256) (id:=5440512256) (bytes:=8) (xs:=[[.int .i64 (x:Int)]]) (rd:=[5440512192]) (by simp[kd,kd0]) (hB.gd.of_eq ((aX ae).trans (aX (nSi rfl)))) (by simp[fU,aO]) (.inl rfl) (by simp only[cM,dC,fe];omega) fun c bh hc bj=>?_;have JU:∀i,i≠5440512192->i≠5440512256->i≠idS->bh i=aj i:=fun i a b c=>(bj i b b).trans ((aX a).trans (aX c))
    have aok:=(bj idS (nSi rfl).symm (nSi rfl).symm).trans ((aX (nSi rfl).symm).trans A7);have GA:=(JU 5440128448 ae ae (nSi rfl)).trans hB.bF;simp only[go_sem,GA,h0,iu,jF,kF,s101,MG pt];refine ih (k+1) (aW ls x) (iQ.set x true) (f.add F ls x) _ _ c cp cf ?_ ?_ ?_ ?_ ?_ ?_ ?_ ?_ (by rw[ud];exact JR) (YU ok FC) cV aa aa Hw ?_
    .simp only[go_sem,h0]
    .simp only[go_sem,h2]
    .simp only[go_sem,h8]
    .simp only[go_sem,h9]
    .simp only[go_sem,ff]
    .simp only[go_sem,iu]
    .simp only[go_sem]
    .rw[MX];refine⟨?_,?_,?_,A7,?_,?_,?_⟩
     .exact(aX (nSi rfl).symm).trans aok
     .exact(aX (nBi rfl).symm).trans ((JU _ (nBi rfl).symm (nBi rfl).symm nSB.symm).trans hB.bB)
     .exact(aX ae).trans ((JU _ ae ae (nSi rfl)).trans hB.b8)
     .exact(KH _ _▸hc.of_eq (aX ae))
     .exact(hB.gp.of_eq (JU _ ae ae (nSi rfl))).of_eq (aX ae)
     exact(hB.gf.of_eq (JU _ ae ae (nSi rfl))).of_eq (aX ae)
    intro aF ao CR mM CU q8 FY yK dK;refine hq aF ao CR mM CU (by rw[q8];simp only[go_sem]) (by rw[FY];simp only[go_sem]) yK fun id hn=>?_;have a:∀y,uK y->id≠y:=fun y hy e=>hn (.inl (e▸hy));exact(dK id hn).trans ((aX (a _ rfl)).trans (JU id (a _ rfl) (a _ rfl) fun e=>hn (.inr e)))
   have hj:(x-2*ls.length)/2<(aG ls).length:=by unfold nD at FC;omega
   have uF:=as8 ok hF hj;have lP:=agT ok hj;have lF:=agS ok hj;have Hl:¬((x:Int)<((2*ls.length:Nat):Int)):=aa;have ws:=Zi (a:=x) (b:=2*ls.length) aa aa;have wq:=wrap_small (n:=(x-2*ls.length)/2) aa;have w2:=Iu (a:=(aG ls).length) aa aa;have Qp:((((x-2*ls.length)/2:Nat):Int)==(((aG ls).length-1:Nat):Int))=decide ((x-2*ls.length)/2+1=(aG ls).length):=by
    by_cases h:(x-2*ls.length)/2+1=(aG ls).length
    .rw[Bg h];simp;omega
    rw[Eo h];simp;omega
   have qG:(f.add F ls x).outer=(f.outer||decide ((x-2*ls.length)/2+1=(aG ls).length)):=by unfold Fc.add;rw[ay yP]
   have Wt:(f.add F ls x).ie=f.ie:=by unfold Fc.add;rw[ay yP]
   have WC:(f.add F ls x).cq=f.cq:=by unfold Fc.add;rw[ay yP]
   have HC:(f.add F ls x).places=f.places++(if x%2=0 then rG F ls ((x-2*ls.length)/2) else (rG F ls ((x-2*ls.length)/2)).reverse):=by unfold Fc.add;rw[ay yP]
   have Nk:(f.add F ls x).yB=f.yB++(if x%2=0 then DS F ls ((x-2*ls.length)/2) else (DS F ls ((x-2*ls.length)/2)).reverse):=by unfold Fc.add;rw[ay yP]
   generalize f.add F ls x=f' at qG Wt WC HC Nk hq Hw;have mf:S.lone 5440640128=false:=ah;have sc1:∀l:v_,((ql l).all fun e=>e.all PV.scalar)=true:=fun l=>by simp[PV.scalar]
   have sc2:∀l:a_,((nP l).all fun e=>e.all PV.scalar)=true:=fun l=>by simp[PV.scalar]
   have hnP:∀l:v_,∀e∈ql l,e.length=2/\ ∀v∈e,v.norm=v:=fun l e he=>by obtain⟨a,_,rfl⟩:=dh.1 he;exact⟨rfl,fun v hv=>by simp at hv;rcases hv with rfl|rfl<;>rfl⟩
   have hnF:∀l:a_,∀e∈nP l,e.length=1/\ ∀v∈e,v.norm=v:=fun l e he=>by obtain⟨a,_,rfl⟩:=dh.1 he;exact⟨rfl,fun v hv=>by simp at hv;rcases hv with rfl;rfl⟩
   have tu:S.shared 115=true:=ah;have shI:S.shared 116=true:=ah;have nA:(iQ.set x true).take (2*ls.length)=iQ.take (2*ls.length):=ail aa;generalize rG F ls ((x-2*ls.length)/2)=PP at*;generalize DS F ls ((x-2*ls.length)/2)=FF at*;simp only[go_sem,i85_l1,h0,h9,jF,m2,Hl,ws,wq,eO,fR,s114];refine ano (by simp[kr1,kr2]) uF mf (sc1 _) (sc2 _) fun c e bU hc he hb=>?_;by_cases eD:x%2=0
   .have NN:((x:Int).tmod 2==1)=false:=by rw[jX,eD];rfl
    rw[aD eD] at HC Nk;have hP:=hc;have hE:=he;have Dn:∀i,i≠5440640128->i≠5440640129->bU i=aj i:=hb;have bFN:=(Dn 5440128448 ae ae).trans hB.bF;simp only[go_sem,eO,NN,bFN,iu,jF,kF];obtain⟨rP,hxP,NR⟩:=hP.elems;refine GK (site:=5440896192) (id:=5440896192) (bytes:=16) (by rcases NR with rfl|rfl<;>simp[kp,kr1]) (hB.gp.of_eq (Dn _ ae ae)) hxP hP.iI (by simp only[cM];omega) fun c2 jE r1 u1 o9 lV jV=>?_
    have GA:=(lV 5440128448 ae ae).trans bFN;simp only[go_sem,GA,iu,kF];obtain⟨rE,hxE,NQ⟩:=(hE.of_eq (lV _ ae ae)).elems;refine GK (site:=5440896448) (id:=5440896448) (bytes:=8) (by rcases NQ with rfl|rfl<;>simp[kf,kr2]) (hB.gf.of_eq ((lV _ ae ae).trans (Dn _ ae ae))) hxE hE.iI (by simp only[cM];omega) fun c3 CO r2 u2 M1 Fh wJ=>?_
    have L1:=(Fh 5440128448 ae ae).trans GA;have dQ:∀i,i≠5440640128->i≠5440640129->i≠5440896192->i≠5440896448->CO i=aj i:=fun i a b c d=>(Fh i d d).trans ((lV i c c).trans (Dn i a b));have Wx:grown 5440896192 DT 2 (ql f'.places) (.one c2) CO:=by rw[HC,KW];exact o9.of_eq (Fh _ ae ae)
    have Wy:grown 5440896448 3 1 (nP f'.yB) (.one c3) CO:=by rw[Nk,KH];exact M1
    clear o9 M1;cases ho:f.outer;all_goals
     rw[ho] at L1;simp only[go_sem,L1,h0,ff,iu,jF,kF,w2,Qp,s101,MG pt];refine⟨?_,?_⟩
     .rcases NR with rfl|rfl<;>rcases NQ with rfl|rfl<;>rcases jV with ⟨rfl,rfl⟩|⟨rfl,rfl⟩|⟨rfl,rfl⟩<;>rcases wJ with ⟨rfl,rfl⟩|⟨rfl,rfl⟩|⟨rfl,rfl⟩<;>kernel_rfl
     refine ih (k+1) (aW ls x) (iQ.set x true) f' _ _ cd c2 c3 ?_ ?_ ?_ ?_ ?_ ?_ ?_ ?_ (by rw[ud];exact JR) (YU ok FC) cV aa aa Hw ?_
     .simp only[go_sem,h0]
     .simp only[go_sem,h2]
     .simp only[go_sem,h8]
     .simp only[go_sem,h9]
     .simp only[go_sem,ff]
     .simp only[go_sem,iu]
     .simp only[go_sem]
     .rw[nA];refine⟨?_,?_,?_,?_,?_,?_,?_⟩
      .exact(aX (nSi rfl).symm).trans ((aX (nSi rfl).symm).trans ((aX (nSi rfl).symm).trans ((dQ _ (nSi rfl).symm (nSi rfl).symm (nSi rfl).symm (nSi rfl).symm).trans hB.bS)))
      .exact(aX (nBi rfl).symm).trans ((aX (nBi rfl).symm).trans ((aX (nBi rfl).symm).trans ((dQ _ (nBi rfl).symm (nBi rfl).symm (nBi rfl).symm (nBi rfl).symm).trans hB.bB)))
      .exact(aX ae).trans ((aX ae).trans ((aX ae).trans ((dQ _ ae ae ae ae).trans hB.b8)))
      .rw[A7,Wt,qG,ho];rfl
      .rw[WC];exact hB.gd.of_eq ((aX ae).trans ((aX ae).trans ((aX ae).trans (dQ _ ae ae ae ae))))
      .exact Wx.of_eq ((aX ae).trans ((aX ae).trans (aX ae)))
      exact Wy.of_eq ((aX ae).trans ((aX ae).trans (aX ae)))
     intro aF ao CR mM CU q8 FY yK dK;refine hq aF ao CR mM CU (by rw[q8];simp only[go_sem]) (by rw[FY];simp only[go_sem]) yK fun id hn=>?_;have a:∀y,uK y->id≠y:=fun y hy e=>hn (.inl (e▸hy));exact(dK id hn).trans ((aX (a _ rfl)).trans ((aX (a _ rfl)).trans ((aX (a _ rfl)).trans (dQ id (a _ rfl) (a _ rfl) (a _ rfl) (a _ rfl)))))
   have NN:((x:Int).tmod 2==1)=true:=by rw[jX,show x%2=1 by omega];rfl
   rw[ay eD] at HC Nk;simp only[go_sem,eO,NN,jF,tu];refine adw (f:=115) (fun o h=>as6 o (by simp only[cM];omega) (hnP _) h) aup hc kr1 f1 fun bh ji bj=>?_;simp only[go_sem,shI];refine adw (f:=116) (fun o h=>as4 o (by simp only[cM];omega) (hnF _) h) auo (he.of_eq (bj _ ae)) kr2 f2 fun ig he1 gk=>?_;have hP:grown 5440640128 DT 2 (ql PP.reverse) (.one c) ig:=by rw[ql,List.map_reverse];exact ji.of_eq (gk _ ae)
   have hE:grown 5440640129 3 1 (nP FF.reverse) (.one e) ig:=by rw[nP,List.map_reverse];exact he1
   have Dn:∀i,i≠5440640128->i≠5440640129->ig i=aj i:=fun i a b=>(gk i b).trans ((bj i a).trans (hb i a b));have bFN:=(Dn 5440128448 ae ae).trans hB.bF;simp only[go_sem,bFN,iu,kF];obtain⟨rP,hxP,NR⟩:=hP.elems;refine GK (site:=5440896192) (id:=5440896192) (bytes:=16) (by rcases NR with rfl|rfl<;>simp[kp,kr1]) (hB.gp.of_eq (Dn _ ae ae)) hxP hP.iI (by simp only[cM,oL];omega) fun c2 jE r1 u1 o9 lV jV=>?_
   have GA:=(lV 5440128448 ae ae).trans bFN;simp only[go_sem,GA,iu,kF];obtain⟨rE,hxE,NQ⟩:=(hE.of_eq (lV _ ae ae)).elems;refine GK (site:=5440896448) (id:=5440896448) (bytes:=8) (by rcases NQ with rfl|rfl<;>simp[kf,kr2]) (hB.gf.of_eq ((lV _ ae ae).trans (Dn _ ae ae))) hxE hE.iI (by simp only[cM,oL];omega) fun c3 CO r2 u2 M1 Fh wJ=>?_
   have L1:=(Fh 5440128448 ae ae).trans GA;have dQ:∀i,i≠5440640128->i≠5440640129->i≠5440896192->i≠5440896448->CO i=aj i:=fun i a b c d=>(Fh i d d).trans ((lV i c c).trans (Dn i a b));have Wx:grown 5440896192 DT 2 (ql f'.places) (.one c2) CO:=by rw[HC,KW];exact o9.of_eq (Fh _ ae ae)
   have Wy:grown 5440896448 3 1 (nP f'.yB) (.one c3) CO:=by rw[Nk,KH];exact M1
   clear o9 M1;cases ho:f.outer;all_goals
    rw[ho] at L1;simp only[go_sem,L1,h0,ff,iu,jF,kF,w2,Qp,s101,MG pt];refine⟨?_,?_⟩
    .rcases NR with rfl|rfl<;>rcases NQ with rfl|rfl<;>rcases jV with ⟨rfl,rfl⟩|⟨rfl,rfl⟩|⟨rfl,rfl⟩<;>rcases wJ with ⟨rfl,rfl⟩|⟨rfl,rfl⟩|⟨rfl,rfl⟩<;>kernel_rfl
    refine ih (k+1) (aW ls x) (iQ.set x true) f' _ _ cd c2 c3 ?_ ?_ ?_ ?_ ?_ ?_ ?_ ?_ (by rw[ud];exact JR) (YU ok FC) cV aa aa Hw ?_
    .simp only[go_sem,h0]
    .simp only[go_sem,h2]
    .simp only[go_sem,h8]
    .simp only[go_sem,h9]
    .simp only[go_sem,ff]
    .simp only[go_sem,iu]
    .simp only[go_sem]
    .rw[nA];refine⟨?_,?_,?_,?_,?_,?_,?_⟩
     .exact(aX (nSi rfl).symm).trans ((aX (nSi rfl).symm).trans ((aX (nSi rfl).symm).trans ((dQ _ (nSi rfl).symm (nSi rfl).symm (nSi rfl).symm (nSi rfl).symm).trans hB.bS)))
     .exact(aX (nBi rfl).symm).trans ((aX (nBi rfl).symm).trans ((aX (nBi rfl).symm).trans ((dQ _ (nBi rfl).symm (nBi rfl).symm (nBi rfl).symm (nBi rfl).symm).trans hB.bB)))
     .exact(aX ae).trans ((aX ae).trans ((aX ae).trans ((dQ _ ae ae ae ae).trans hB.b8)))
     .rw[A7,Wt,qG,ho];rfl
     .rw[WC];exact hB.gd.of_eq ((aX ae).trans ((aX ae).trans ((aX ae).trans (dQ _ ae ae ae ae))))
     .exact Wx.of_eq ((aX ae).trans ((aX ae).trans (aX ae)))
     exact Wy.of_eq ((aX ae).trans ((aX ae).trans (aX ae)))
    intro aF ao CR mM CU q8 FY yK dK;refine hq aF ao CR mM CU (by rw[q8];simp only[go_sem]) (by rw[FY];simp only[go_sem]) yK fun id hn=>?_;have a:∀y,uK y->id≠y:=fun y hy e=>hn (.inl (e▸hy));exact(dK id hn).trans ((aX (a _ rfl)).trans ((aX (a _ rfl)).trans ((aX (a _ rfl)).trans (dQ id (a _ rfl) (a _ rfl) (a _ rfl) (a _ rfl)))))
structure cX (F:Nat) (ls:ai):Prop where
 ok:fA F ls
 len:ls.length<=400
 cr:aq Let.aA ls<=200
 fing:F<=40
 ne:ls≠[]
 first:∃l,ls[0]?=some l/\l.aE=true
 even:aq Let.aE ls%2=0
 bad:∀l∈ls,dL F l=false
 chk:bQ F ls=0
 nw:mT ls=aq Let.aE ls+aq Let.aA ls/2+2
def rj{f:Int}(h:bQ f ls=0)(aI:ls≠[]):∃F:Nat,f=(F:Int)/\cX F ls:=by
 have h0:=h;unfold bQ at h;by_cases h1:400<ls.length\/200<aq Let.aA ls
 .rw[aD h1] at h;cases h
 rw[ay h1] at h;by_cases h2:f<0\/40<f
 .rw[aD h2] at h;cases h
 rw[ay h2,ay aI] at h;cases hv:mE f ls with
 |false=>rw[hv] at h;simp at h
 |true=>
  obtain⟨F,rfl⟩:=tA (show 0<=f by omega);refine⟨F,rfl,?_⟩;unfold mE at hv;simp only[cU] at hv;obtain⟨⟨⟨v1,v2⟩,v3⟩,v4⟩:=hv;obtain⟨dw,my,eV⟩:=XK.1 v3;have sT:∀l∈ls,dL F l=false:=fun l hl=>by simpa using IA.1 dw l hl
  have hg:rY F ls:=fun l hl hp=>((sB hp).1 (sT l hl)).1.1.1;obtain⟨g1,g2⟩:=(OD hg).1 my;obtain⟨l0,r7⟩:=aM (jl.2 aI);rw[r7] at v1;exact⟨⟨aa,⟨g1,g2⟩,eV,fun l hl=>v7 (sT l hl)⟩,aa,aa,aa,aI,⟨l0,r7,v1⟩,by simpa using v2,sT,h0,by simpa using v4⟩
def acQ(F:Nat)(ls:ai)(idS gS:Nat)(x:Nat)(iQ:m_)(aj:aB)(v:V)(ao:aB):Prop:=
 ∃f cd cp cf,f=((fp (aW ls) (nD ls+1) x iQ).1).foldl (Fc.add F ls) (Fc.new ls x)/\v=.agg [.p (.bool f.ie),cd,cp,cf,.p (.bool f.outer)]/\ao idS=(gS,some (.arr 4 1 (bP ((fp (aW ls) (nD ls+1) x iQ).2.take (2*ls.length)))))/\
  grown 5440512256 3 1 (nP f.cq) (.one cd) ao/\grown 5440896192 DT 2 (ql f.places) (.one cp) ao/\grown 5440896448 3 1 (nP f.yB) (.one cf) ao/\Kept (fun id=>uK id\/id=idS) aj ao
def amK{al:Al}{F:Nat}{ls:ai}(ok:fA F ls)(hF:F<=1000)(okf:∀id,uK id->al.ok id=true){idS gS idB gB x:Nat}(oS:al.ok idS=true)(oB:al.ok idB=true)(nS:¬uK idS)(nB:¬uK idB)(nSB:idS≠idB)(f1:al.fs.contains 115=true)(f2:al.fs.contains 116=true){iQ:m_}{aj:aB}
  (hx:x<2*ls.length) (JR:iQ.length=nD ls) (bN:LJ (aW ls) (nD ls) iQ) (hs:iQ.getD x true=false) (bS:aj idS=(gS,some (.arr 4 1 (bP (iQ.take (2*ls.length)))))) (bB:aj idB=(gB,some (.arr 4 1 (bP (CN ls))))):
  ∃v ao,jm S 85 [.one (.p (nY F ls)),vi x,.one (.hsl idS gS 1 0 (2*ls.length)),.one (.hsl idB gB 1 0 ls.length)] al aj v ao/\acQ F ls idS gS x iQ aj v ao:=by
 have hl:=ok.hl;have gR:(aG ls).length<=ls.length:=xv ls ls.length;have iw:nD ls<=4000000:=by unfold nD;omega
 have k0:al.ok 5440000000=true:=okf _ rfl;have kF:al.ok 5440128448=true:=okf _ rfl;have wq:=wrap_small (n:=x/2) aa;have wO:x/2<ls.length:=aa;have anY:=tF (akl wO);have nSi:∀ {a:Nat},uK a->a≠idS:=fun h e=>nS (e▸h);have nBi:∀ {a:Nat},uK a->a≠idB:=fun h e=>nB (e▸h);have nB0:¬(idB=5440000000):=fun e=>nBi rfl e.symm
 have hul:=Lp iQ;refine nT c85 (iA rfl) ?_;simp only[go_sem,i85,bB,nB0,k0,kF,oB,eO,fR,wq,wO,anY];refine⟨aJ,?_⟩;refine amH ok hF okf (idS:=idS) (gS:=gS) (idB:=idB) (gB:=gB) (g8:=(aj 5440000000).1+1) (gF:=(aj 5440128448).1+1) (d:=x) oS nS nB nSB f1 f2 hx (nD ls+1) 0 x iQ (Fc.new ls x) _ _ (.p .nils) (.p .nils) (.p .nils) ?_ ?_ ?_ ?_ ?_ ?_ ?_ ?_ JR (by unfold nD;omega) (Inv.start bN hs) aa aa ⟨bR _,bG _,bG _⟩ ?_
 .simp only[go_sem]
 .simp only[go_sem]
 .simp only[go_sem]
 .simp only[go_sem]
 .simp only[go_sem]
 .simp only[go_sem]
 .simp only[go_sem]
 .refine⟨?_,?_,?_,?_,grown.nil,grown.nil,grown.nil⟩
  .simp only[aX (nSi (a:=5440000000) rfl).symm,aX (nSi (a:=5440128448) rfl).symm,bS]
  .simp only[aX (nBi (a:=5440000000) rfl).symm,aX (nBi (a:=5440128448) rfl).symm,bB]
  .simp only[go_sem]
  simp only[go_sem,Fc.new]
 intro aF ao CR mM CU q8 FY yK dK;simp only[go_sem] at q8 FY;have h8:=yK.b8;have hf:=yK.bF;simp only[go_sem,i85_r2,q8,FY,h8,hf,k0,kF];refine⟨_,CR,mM,CU,rfl,rfl,?_,?_,?_,?_,fun id hn=>?_⟩
 .exact(aX (nSi rfl).symm).trans yK.bS
 .exact yK.gd.of_eq (aX ae)
 .exact yK.gp.of_eq (aX ae)
 .exact yK.gf.of_eq (aX ae)
 have a:∀y,uK y->id≠y:=fun y hy e=>hn (.inl (e▸hy));refine(aX (a _ rfl)).trans ((dK id hn).trans ?_);simp only[aX (a 5440000000 rfl),aX (a 5440128448 rfl)]
def yE{s1 t1 z1:Nat}{es:s_}{c:C}{x:PV}{aj:aB}(h:grown s1 t1 z1 es (.one c) aj):jd aj (.tup [.one c,.one (.p x)])=some (.tup [.one (aU t1 z1 es),.one (.p x)]):=by obtain⟨c',o,hc,h2,h3⟩:=h.jM;cases hc;rcases h3 with rfl|rfl<;>simp[jd,tH,vn,oX,nG,h2,(show Go.Abs.jM aj (.p x)=some (.p x,[],[]) from rfl),apart,vN,tq,AZ]
def Ys{aj:aB}{id g g0 z o l ty sz:Nat}{es:s_}(h:aj id=(g0,some (.arr ty sz es))):jN aj (.one (.hsl id g z o l))=[id]:=(DW h:kJ aj 6 (.hsl id g z o l)=[id])
def aul:(S.sites 85).contains 85=true:=ah
def aum:(S.sites 85).contains 115=true:=ah
def aun:(S.sites 85).contains 116=true:=ah
def aik{S:m_}{n k:Nat}{b:Bool}(hk:k<n)(hn:n<=S.length)(h:S.getD k true=b):(S.take n)[k]?=some b:=by rw[mI,aD hk];rw[dA] at h;obtain⟨c,hc⟩:=aM (show k<S.length by omega);rw[hc] at h |-;exact congrArg some h
def amN(g:cX F ls):aK S 55 [dY F ls] (.tup [.one (aU Bq 5 (tG (eS F ls))),.one (.p (.int .i64 0))]):=by
 have ok:=g.ok;have hl:=ok.hl;have hF:F<=1000:=by have:=g.fing;omega
 have gR:(aG ls).length<=ls.length:=xv ls ls.length;have hlen:=g.len;have iw:nD ls<=4000000:=by unfold nD;omega
 have h2n:2*ls.length<=nD ls:=by unfold nD;omega
 have pr:=R5 F ls hl;rw[OF g.chk,ay g.ne,pP] at pr;have pb:=akn ok;have hm:=maps ok;have m2:=u4 (a:=ls.length) aa;have lI:2*ls.length<=140737488355328:=aa;have kV:List.replicate (2*ls.length) [PV.bool false]=bP ((dX (aW ls) (nD ls) 0).2.take (2*ls.length)):=by show _=bP ((List.replicate (nD ls) false).take (2*ls.length));rw[List.take_replicate,zK h2n];simp
 have hLB:∀aj:aB,land aj [] 3520384064 ((RV.one (.own 4 1 (bP (CN ls)))).gJ (S.lone 3520384064))=some (.one (.hsl 3520384064 ((aj 3520384064).1+1) 1 0 ls.length),[(3520384064,((aj 3520384064).1+1,some (.arr 4 1 (bP (CN ls)))))]):=by intro aj;rw[show S.lone 3520384064=false by kernel_rfl];show some (V.one (.hsl 3520384064 ((aj 3520384064).1+1) 1 0 (bP (CN ls)).length),_)=_;rw[show(bP (CN ls)).length=ls.length by simp[vf]];rfl
 have jI:S.shared 85=true:=ah;refine bk c55 ?_;simp only[go_sem,i55,s26,de pr iB,s84,de pb (hLB _),m2,lI,kV];refine dy (fun k ak aj=>ak 4=.one (.p (nY F ls))/\ak 7=.one (.hsl 3520320448 1 1 0 (2*ls.length))/\ak 8=.one (.hsl 3520384064 1 1 0 ls.length)/\ak 29=vi ((2*ls.length:Nat):Int)/\ak 30=vi k/\
   aj 3520320448=(1,some (.arr 4 1 (bP ((dX (aW ls) (nD ls) k).2.take (2*ls.length)))))/\aj 3520384064=(1,some (.arr 4 1 (bP (CN ls))))/\
   ∃vo,ak 6=.one vo/\grown 3520704448 Bq 5 (tG ((dX (aW ls) (nD ls) k).1.map (nk F ls))) (.one vo) aj) 0 (2*ls.length) (bG _) ?_ ?_
 .simp only[go_sem];first|exact⟨rfl,rfl,rfl,_,rfl,.inl ⟨rfl,rfl⟩⟩|exact⟨rfl,rfl,_,rfl,.inl ⟨rfl,rfl⟩⟩|exact⟨rfl,_,rfl,.inl ⟨rfl,rfl⟩⟩|exact⟨rfl,rfl,rfl,rfl,_,rfl,.inl ⟨rfl,rfl⟩⟩
 rintro k ak aj hk ⟨h4,h7,h8,h29,h30,bS,bB,vo,h6,go⟩
 by_cases aw:k<2*ls.length
 .have aL:((k:Int)<((2*ls.length:Nat):Int)):=aa;have w1:=cS (n:=k) aa;obtain⟨bN,_⟩:=SG hm k aa;have WQ:=Is (aW ls) (nD ls) k;have Ft:=OR (aW ls) (nD ls) k;have cV:=zC (aW ls) (nD ls) k;generalize hw:dX (aW ls) (nD ls) k=st at*;obtain⟨o,iQ⟩:=st;simp only at bN WQ Ft bS go;unfold vR at cV;cases hs:iQ.getD k true with
  |true=>simp only[hs,if_true] at cV;have hb:=tF (aik aw aa hs);simp only[go_sem,i55_l1,h4,h6,h7,h8,h29,h30,bS,bB,aw,aL,hb,w1,cV];exact⟨vo,rfl,go⟩
  |false=>
   simp only[hs,dN,if_false,WQ] at cV;have hb:=tF (aik aw aa hs);obtain⟨t,ht⟩:=aiA (aW ls) (k:=nD ls) hs;have yW:((fp (aW ls) (nD ls+1) k iQ).1).foldl (Fc.add F ls) (Fc.new ls k)=nk F ls (fp (aW ls) (nD ls+1) k iQ).1:=by unfold nk;rw[ht];rfl
   have fg:=amI (F:=F) (t:=t) aw;rw[<- ht] at fg;simp only[go_sem,i55_l1,h4,h6,h7,h8,h29,h30,bS,bB,aw,aL,hb,jI];have aej:jN aj (.one (.hsl 3520320448 1 1 0 (2*ls.length)))=[3520320448]:=Ys bS;have NT:jN aj (.one (.hsl 3520384064 1 1 0 ls.length))=[3520384064]:=Ys bB;refine sR (P:=acQ F ls 3520320448 1 k iQ aj) Az (amK ok hF (fun id h=>vZ (by rw[h];exact aul)) (tD ?_) (tD ?_) ae ae ae ?_ ?_ aw WQ bN hs bS bB) ?_
   .simp only[eh,mX,aej,NT];simp
   .simp only[eh,mX,aej,NT];simp
   .exact aum
   .exact aun
   rintro v bU ⟨f,cd,cp,cf,hf,rfl,bS1,gd,gp,gf,dK⟩
   rw[yW] at hf;rw[<- hf] at fg;have LZ:=(dK 3520384064 ae).trans bB;have go1:=go.of_eq (dK 3520704448 ae);have qG:tG (o.map (nk F ls))++[f.ps]=tG ((dX (aW ls) (nD ls) (k+1)).1.map (nk F ls)):=by rw[cV,hf];simp
   have hS2:(dX (aW ls) (nD ls) (k+1)).2=(fp (aW ls) (nD ls+1) k iQ).2:=by rw[cV]
   have aoQ:(tG (o.map (nk F ls))).length<=k:=by simpa using Ft
   generalize tG (o.map (nk F ls))=outs at go1 qG aoQ;have gd0:=gd;rcases gd with ⟨e,_⟩|⟨_,gg,e,hbd⟩
   .simp at e;exact absurd e fg
   cases e;simp only[go_sem];rw[cM] at gd0;obtain⟨fr,hx,Bx,Aq⟩:=al6 (aj:=dU bU 3520704384 ((bU 3520704384).1+1,some (.ju Bq 5 [[.p (.bool f.ie),.hsl 5440512256 gg 1 0 f.cq.length,cp,cf,.p (.bool f.outer)]]))) (s:=3520704384) A7 (gd0.of_eq (aX ae)) (gp.of_eq (aX ae)) (gf.of_eq (aX ae));have nf:∀i,i≠5440512256->i≠5440896192->i≠5440896448->i∉fr:=fun i a b c h=>by
    rcases Aq i h with h|h|h
    .exact a h
    .exact b h
    exact c h
   refine anm (site:=3520704448) (id:=3520704448) (bytes:=88) (go1.of_eq (aX ae)) hx Bx (nf _ ae ae ae) (nf _ ae ae ae) (.inl rfl) (by simp only[dC,fe];omega) fun c bh hc bj=>?_;have BS':=(bj 3520320448 ae ae (nf _ ae ae ae)).trans ((aX ae).trans bS1);have BB':=(bj 3520384064 ae ae (nf _ ae ae ae)).trans ((aX ae).trans LZ);simp only[go_sem,h4,h6,h7,h8,h29,h30,BS',BB',w1,aw,hS2];refine⟨c,rfl,?_⟩;rw[<- qG];exact hc
 have:k=2*ls.length:=aa;subst this;simp only[go_sem,i55_l1,i55_r2,h6,h29,h30,eI];have:=Zd hm (nD ls) h2n (bR _);unfold eS gU;rw[this];exact yE go
structure Pc where
 l:Let
 d:Bool
abbrev c_:=List Pc
def Pc.ps(p:Pc):b_:=[.int .i64 p.l.kind,.int .i64 p.l.gate,.int .i64 p.l.aC,.int .i64 p.l.id,.int .i64 p.l.sign,.bool p.l.over,.bool p.d]
abbrev eo(o:c_):s_:=o.map Pc.ps
abbrev nI:Nat:=119
def lX:Let:=⟨0,0,0,0,0,false⟩
def pieces(ls:ai):c_:=(List.range ls.length).map fun i=>⟨ls.getD i lX,iT ls i⟩
def fK(ls:ai):(pieces ls).length=ls.length:=by simp[pieces]
def qP{i:Nat}{l:Let}(h:ls[i]?=some l):(pieces ls)[i]?=some ⟨l,iT ls i⟩:=by have:=(aT.1 h).1;simp only[pieces,fG,u5 this,nQ,dA,h,nO]
def kI{o:c_}{k:Nat}{p:Pc}(h:o[k]?=some p):(eo o)[k]?=some p.ps:=by simp[h]
def qo(L:a_)(ds:a_)(v:Nat):a_:=ds.foldl (fun L d=>L.set d v) L
def rF:q_->Nat->a_->a_
 |[],_,L=>L
 |f::r,j,L=>rF r (j+1) (qo L f.cq j)
def pK(F:Nat)(ls:ai):a_:=rF (eS F ls) 0 (List.replicate (2*ls.length) 0)
def OH(L ds:a_)(v:Nat):(qo L ds v).length=L.length:=by
 induction ds generalizing L with
 |nil=>rfl
 |cons d ds ih=>show(qo (L.set d v) ds v).length=_;rw[ih];simp
def att(L a b:a_)(v:Nat):qo L (a++b) v=qo (qo L a v) b v:=by simp[qo]
def Q1(fs:q_):∀(j:Nat) (L:a_),(rF fs j L).length=L.length:=by
 induction fs with
 |nil=>intro j L;rfl
 |cons f r ih=>intro j L;show(rF r (j+1) _).length=_;rw[ih,OH]
def apW(a:q_)(f:Fc):∀(j:Nat) (L:a_),rF (a++[f]) j L=qo (rF a j L) f.cq (j+a.length):=by
 induction a with
 |nil=>intro j L;rfl
 |cons g r ih=>intro j L;show rF (r++[f]) (j+1) _=_;rw[ih];simp[rF];congr 1;omega
def ajk(F:Nat)(ls:ai):∀(w:a_) (f:Fc),(w.foldl (Fc.add F ls) f).cq=f.cq++w.filter (fun x=>decide (x<2*ls.length)):=by
 intro w
 induction w with
 |nil=>intro f;simp
 |cons x w ih=>
  intro f;rw[Bc,ih];unfold Fc.add;by_cases h:x<2*ls.length
  .rw[aD h,List.filter_cons_of_pos (by simpa using h)];simp
  rw[ay h,List.filter_cons_of_neg (by simpa using h)]
def Dd(F:Nat)(ls:ai)(w:a_):(nk F ls w).cq=w.filter (fun x=>decide (x<2*ls.length)):=by unfold nk;rw[ajk];rfl
def V4{f:Fc}(h:f∈eS F ls):∀d∈f.cq,d<2*ls.length:=by
 obtain⟨w,_,rfl⟩:=dh.1 h;intro d hd;rw[Dd] at hd
 simpa using (u7.1 hd).2
def V5(ok:fA F ls){f:Fc}(h:f∈eS F ls):f.cq.length<=nD ls:=by obtain⟨w,hw,rfl⟩:=dh.1 h;rw[Dd];exact mY (List.length_filter_le _ _) (OS ok w hw).2.1
def acP(F:Nat)(ls:ai):(eS F ls).length=mT ls:=by simp[eS,mT]
def V6{o:q_}{k:Nat}{p:Fc}(h:o[k]?=some p):(tG o)[k]?=some p.ps:=by simp[h]
abbrev eU(F:Nat)(ls:ai):PV:=.box [.int .i64 F,.sl (eo (pieces ls)),.sl (tG (eS F ls)),.sl (nP (pK F ls)),.int .i64 (aq Let.aE ls:Nat),.int .i64 ((aq Let.aA ls/2:Nat):Int),.sl (nP (counts ls F))]
abbrev L6(F:Nat)(ls:ai)(pc cf:C):f_:=[.p (.int .i64 F),pc,cf,.hsl 2048256448 1 1 0 (2*ls.length),.p (.int .i64 (aq Let.aE ls:Nat)),.p (.int .i64 ((aq Let.aA ls/2:Nat):Int)),.hsl 2048256960 1 1 0 (F+1)]
def arl{F:Nat}{ls:ai}(g:cX F ls){pc cf:C}{ak:Env}{aj:aB}{Q:dO}(h4:ak 4=.one cf)(h6:ak 6=.one (.aZ 2048257088 1 0))
  (bB:aj 2048257088=(1,some (.var (L6 F ls pc cf)))) (bL:aj 2048256448=(1,some (.arr 3 1 (nP (List.replicate (2*ls.length) 0))))) (bC:aj 2048256960=(1,some (.arr 3 1 (nP (counts ls F))))) (gp:grown 2048896448 nI 7 (eo (pieces ls)) (.one pc) aj) (gf:grown 2048064064 Bq 5 (tG (eS F ls)) (.one cf) aj)
  (hq:∀aF ao,aF 6=ak 6->ao 2048257088=(1,some (.var (L6 F ls pc cf)))->ao 2048256448=(1,some (.arr 3 1 (nP (pK F ls))))->ao 2048256960=(1,some (.arr 3 1 (nP (counts ls F))))->grown 2048896448 nI 7 (eo (pieces ls)) (.one pc) ao->grown 2048064064 Bq 5 (tG (eS F ls)) (.one cf) ao->W S .all i32_r5 Q aF ao):
  W S .all i32_r6 Q ak aj:=by
 have ok:=g.ok;have hl:=ok.hl;have hlen:=g.len;have gR:(aG ls).length<=ls.length:=xv ls ls.length;have iw:nD ls<=4000000:=by unfold nD;omega
 have yV:(eS F ls).length<=nD ls:=by rw[eS,cM];exact OR (aW ls) (nD ls) _
 obtain⟨g0,Wz⟩:∃gg,cf=.hsl 2048064064 gg 5 0 (eS F ls).length:=by
  rcases gf with ⟨e,_⟩|⟨_,gg,e,hb⟩
  .have h1:(eS F ls).length=0:=by simpa using congrArg List.length e
   rw[acP,g.nw] at h1;omega
  cases e;exact⟨gg,by rw[cM]⟩
 have vt:=h4;rw[Wz] at vt;simp only[go_sem,i32_r6,vt];refine dy (fun k aF ao=>aF 6=ak 6/\aF 78=.one cf/\aF 79=vi (eS F ls).length/\aF 80=vi k/\ao 2048257088=(1,some (.var (L6 F ls pc cf)))/\ao 2048256448=(1,some (.arr 3 1 (nP (rF ((eS F ls).take k) 0 (List.replicate (2*ls.length) 0)))))/\ao 2048256960=(1,some (.arr 3 1 (nP (counts ls F))))/\
   grown 2048896448 nI 7 (eo (pieces ls)) (.one pc) ao/\grown 2048064064 Bq 5 (tG (eS F ls)) (.one cf) ao) 0 (eS F ls).length (bG _) ?_ ?_
 .simp only[go_sem,bB,bL,bC,rF,Wz];exact⟨rfl,gp,by first|exact gf|(rw[<- Wz];exact gf)⟩
 rintro k aF ao hk ⟨q6,h78,h79,h80,bB,bL,bC,gp,gf⟩
 rw[h6] at q6;by_cases aw:k<(eS F ls).length
 .have aL:((k:Int)<((eS F ls).length:Int)):=aa;obtain⟨f,hf⟩:=aM aw;have Hp:=V6 hf;have oz:=aV hf;have hdl:=V5 ok oz;have hdd:=V4 oz;have w1:=cS (n:=k) aa;have nA:rF ((eS F ls).take (k+1)) 0 (List.replicate (2*ls.length) 0)=qo (rF ((eS F ls).take k) 0 (List.replicate (2*ls.length) 0)) f.cq k:=by
   rw[qq,hf];show rF (_++[f]) 0 _=_;rw[apW,iK,zK aa,js]
  have hLl:(rF ((eS F ls).take k) 0 (List.replicate (2*ls.length) 0)).length=2*ls.length:=by rw[Q1,List.length_replicate]
  generalize rF ((eS F ls).take k) 0 (List.replicate (2*ls.length) 0)=L at bL nA hLl;obtain⟨gg,wC,bf⟩:∃gg,cf=.hsl 2048064064 gg 5 0 (tG (eS F ls)).length/\ao 2048064064=(gg,some (.arr Bq 5 (tG (eS F ls)))):=by
   rcases gf with ⟨e,_⟩|⟨_,gg,e,hb⟩
   .have:(eS F ls).length=0:=by simpa using congrArg List.length e
    omega
   cases e;exact⟨gg,rfl,hb⟩
  rw[cM] at wC;have Wq:=h78;rw[wC] at Wq;simp only[go_sem,i32_l4,Wq,h79,h80,bf,Hp,Fc.ps,aw,aL];refine dy (fun j dz bh=>dz 6=.one (.aZ 2048257088 1 0)/\dz 11=vi k/\dz 78=.one cf/\dz 79=vi (eS F ls).length/\dz 80=vi k/\dz 86=.one (.p (.sl (nP f.cq)))/\dz 87=vi f.cq.length/\dz 88=vi j/\
   bh 2048257088=(1,some (.var (L6 F ls pc cf)))/\bh 2048256448=(1,some (.arr 3 1 (nP (qo L (f.cq.take j) k))))/\bh 2048256960=(1,some (.arr 3 1 (nP (counts ls F))))/\grown 2048896448 nI 7 (eo (pieces ls)) (.one pc) bh/\grown 2048064064 Bq 5 (tG (eS F ls)) (.one cf) bh) 0 f.cq.length (bG _) ?_ ?_
  .simp only[go_sem,q6,wC,Wq,h79,h80,bB,bL,bC,qo,List.foldl_nil];refine⟨rfl,gp.of_eq (aX ae),?_⟩;first|exact gf.of_eq (aX ae)|(rw[<- wC];exact gf.of_eq (aX ae))
  rintro j dz bh hj ⟨p6,p11,p78,p79,p80,p86,p87,p88,cB,cL,cC,cp,cg⟩
  by_cases tP:j<f.cq.length
  .have Hx:((j:Int)<(f.cq.length:Int)):=aa;obtain⟨d,hd⟩:=aM tP;have l5:=kE hd;have hdb:=hdd d (aV hd);have w2:=cS (n:=j) aa;have iG:(qo L (f.cq.take j) k).set d k=qo L (f.cq.take (j+1)) k:=by rw[qq,hd,att];rfl
   have fM:=KI (qo L (f.cq.take j) k) d k;rw[iG] at fM;obtain⟨v0,hv0⟩:=aM (ls:=qo L (f.cq.take j) k) (k:=d) (by rw[OH,hLl];exact hdb);have hv:=kE hv0;simp only[go_sem,i32_l2,p6,p11,p78,p79,p80,p86,p87,p88,cB,cL,cC,tP,Hx,l5,hdb,hv,fM,w2];exact⟨cp.of_eq (aX ae),cg.of_eq (aX ae)⟩
  have:j=f.cq.length:=aa;subst this;rw[lf,<- nA] at cL;simp only[go_sem,i32_l2,i32_r3,p6,p78,p79,p80,p87,p88,cB,cL,cC,eI,w1,aw,h6];exact⟨cp,cg⟩
 have:k=(eS F ls).length:=aa;subst this;rw[lf] at bL;simp only[go_sem,i32_l4,h79,h80,eI];exact hq _ _ (by simp only[go_sem,q6,h6]) bB bL bC gp gf
def Ya(g:cX F ls):aK S 32 [dY F ls] (uV (eU F ls) (.int .i64 0)):=by
 have ok:=g.ok;have hl:=ok.hl;have hlen:=g.len;have uA:=g.fing;have pf:=amN g;have pps:=Ye F ls hl;have pcs:=aa4 F ls hl;have lo:S.lone 2048064064=false:=ah;have m2:=u4 (a:=ls.length) aa;have wF:=cS (n:=F) aa;have r1:2*ls.length*8<=140737488355328:=aa;have r2:(F+1)*8<=140737488355328:=aa;have e1:List.replicate (2*ls.length) [PV.int .i64 0]=nP (List.replicate (2*ls.length) 0):=af;have e2:List.replicate (F+1) [PV.int .i64 0]=nP (sM ls F 0):=by rw[TW];simp
 refine bk c32 ?_;simp only[go_sem,i32,s55];refine ads pf lo fun cf oU wC mu=>?_;have LX:=mu 2048000000 ae;simp only[go_sem] at LX;simp only[go_sem,LX,m2,wF,r1,r2,s56,s57,iD pps,iD pcs,e1,e2];refine⟨aJ,?_⟩;have hz:∀j,j≠2048064064->j≠2048000000->oU j=(0,none):=fun j a b=>(mu j a).trans (aX b);have z1:=hz 2048256448 ae ae;have z2:=hz 2048256960 ae ae;have z3:=hz 2048257088 ae ae;refine dy (fun k ak aj=>ak 4=.one cf/\ak 6=.one (.aZ 2048257088 1 0)/\ak 7=vb (dn ls k)/\ak 42=.one (.p (cT ls))/\ak 43=vi ls.length/\ak 44=vi k/\
   aj 2048256448=(1,some (.arr 3 1 (nP (List.replicate (2*ls.length) 0))))/\aj 2048256960=(1,some (.arr 3 1 (nP (sM ls F k))))/\
   ∃pc,aj 2048257088=(1,some (.var (L6 F ls pc cf)))/\grown 2048896448 nI 7 (eo ((pieces ls).take k)) (.one pc) aj/\grown 2048064064 Bq 5 (tG (eS F ls)) (.one cf) aj) 0 ls.length (bG _) ?_ ?_
 .simp only[go_sem,z1,z2,z3];refine⟨rfl,rfl,.p .nils,rfl,.inl ⟨rfl,rfl⟩,wC.of_eq ?_⟩;simp only[go_sem]
 rintro k ak aj hk ⟨h4,h6,h7,ux,MP,MQ,bL,bC,pc,bB,gp,gf⟩
 by_cases aw:k<ls.length
 .obtain⟨l,df⟩:=aM aw;have hi:=iO df;have aL:((k:Int)<(ls.length:Int)):=aa;have w1:=cS (n:=k) aa;have xO:=qP df;cases hp:(l.kind==1) with
  |false=>
   have gn:l.aE=false:=hp;have l5:iT ls k=false:=by simp[iT,df,gn]
   rw[l5] at xO;have hd:=Mj df gn;have yO:=aa0 (F:=F) df gn;have nA:eo ((pieces ls).take (k+1))=eo ((pieces ls).take k)++[(Pc.mk l false).ps]:=by rw[qq,xO];simp
   simp only[go_sem,i32_l1,h6,ux,MP,MQ,hi,Let.ps,aL,hp,bB];refine Bn (site:=2048896448) (id:=2048896448) (bytes:=56) (xs:=[(Pc.mk l false).ps]) (rd:=[2048896384]) (gp.of_eq (by simp only[aO,Nat.reduceEqDiff,if_false])) (by simp[fU,aO,Pc.ps]) (.inl rfl) (by simp only[cM,dC,fe,iK,fK];omega) fun c bU r u hc hb hr=>?_;have l7:∀i,i≠2048896448->i≠2048896384->i≠2048576128->i≠2048512128->i≠2048256960->bU i=aj i:=fun i a b c d e=>(hb i a a).trans (by simp only[aO,ay b,ay c,ay d])
   have M6:=(hb 2048256960 ae ae);simp only[aO,Nat.reduceEqDiff,if_false,bC] at M6;have LZ:=(l7 2048257088 ae ae ae ae ae).trans bB;have bL1:=(l7 2048256448 ae ae ae ae ae).trans bL;simp only[go_sem,h4,h6,h7,ux,MP,MQ,LZ,bL1,M6,w1,hd,yO,aw];refine⟨?_,?_⟩
   .rcases hr with ⟨rfl,rfl⟩|⟨rfl,rfl⟩|⟨rfl,rfl⟩<;>kernel_rfl
   refine⟨c,rfl,?_,?_⟩
   .rw[nA];exact hc.of_eq (aX ae)
   exact gf.of_eq ((aX ae).trans (l7 _ ae ae ae ae ae))
  |true=>
   have gn:l.aE=true:=hp;have l5:iT ls k=dn ls k:=by simp[iT,df,gn]
   rw[l5] at xO;have hd:=Mi df gn;have nA:eo ((pieces ls).take (k+1))=eo ((pieces ls).take k)++[(Pc.mk l (dn ls k)).ps]:=by rw[qq,xO];simp
   have As:=ok.ax.fy l (aV df) gn;obtain⟨G,hG⟩:=tA As.g0;have JQ:G<=F:=by have:=As.g1;omega
   have Hd:G<F+1:=aa;have vv:=kE (aaY (ls:=ls) (k:=k) JQ);have bN:cg (ls.take k) G<=k:=zS _ _ _;have w2:=cS (n:=cg (ls.take k) G) aa;have s1:=KI (sM ls F k) G (cg (ls.take k) G+1);rw[<- aaZ df gn hG] at s1;simp only[go_sem,i32_l1,h6,h7,ux,MP,MQ,hi,Let.ps,aL,hp,hG,bB,bC,vv,Hd,w2,s1];refine⟨aJ,?_⟩;refine Bn (site:=2048896448) (id:=2048896448) (bytes:=56) (xs:=[(Pc.mk l (dn ls k)).ps]) (rd:=[2048896384]) (gp.of_eq (by simp only[aO,Nat.reduceEqDiff,if_false])) (by simp[fU,aO,Pc.ps,hG]) (.inl rfl) (by simp only[cM,dC,fe,iK,fK];omega) fun c bU r u hc hb hr=>?_
   have l7:∀i,i≠2048896448->i≠2048896384->i≠2048576128->i≠2048512128->i≠2048256960->bU i=aj i:=fun i a b c d e=>(hb i a a).trans (by simp only[aO,ay b,ay c,ay d,ay e]);have M6:=(hb 2048256960 ae ae);simp only[aO,Nat.reduceEqDiff,if_false,if_true,bC] at M6;have LZ:=(l7 2048257088 ae ae ae ae ae).trans bB;have bL1:=(l7 2048256448 ae ae ae ae ae).trans bL;simp only[go_sem,h4,h6,h7,ux,MP,MQ,LZ,bL1,M6,w1,hd,aw];refine⟨?_,?_⟩
   .rcases hr with ⟨rfl,rfl⟩|⟨rfl,rfl⟩|⟨rfl,rfl⟩<;>kernel_rfl
   refine⟨c,rfl,?_,?_⟩
   .rw[nA];exact hc.of_eq (aX ae)
   exact gf.of_eq ((aX ae).trans (l7 _ ae ae ae ae ae))
 have:k=ls.length:=aa;subst this;rw[iz (by rw[fK];exact bR _)] at gp;rw[TV] at bC;simp only[go_sem,i32_l1,MP,MQ,eI];refine arl g (pc:=pc) (cf:=cf) ?_ ?_ bB bL bC gp gf ?_
 .simp only[go_sem,h4]
 .simp only[go_sem,h6]
 intro aF ao q6 cB cL cC gp' gf';simp only[go_sem,h6] at q6;obtain⟨rp,np,_⟩:=gp'.YI (n:=4);obtain⟨rf,nf,_⟩:=gf'.YI (n:=4);have t1:List.take (2*ls.length) (nP (pK F ls))=nP (pK F ls):=iz (by simp[pK,Q1]);have t2:List.take (F+1) (nP (counts ls F))=nP (counts ls F):=iz (by simp[counts]);have n1:2*ls.length<=(pK F ls).length:=by simp[pK,Q1]
 have n2:F+1<=(counts ls F).length:=by simp[counts]
 simp only[go_sem,i32_r5,q6];simp only[go_sem,jd,tH,vn,oX,nG,jM,cB,cL,cC,np,nf,t1,t2,n1,n2];rfl
def uZ{x:Int}(h1: -9223372036854775808<=x)(h2:x<=9223372036854775807):IntKind.i64.wrap x=x:=by
 have e:(2 ^ IntKind.i64.bits:Int)=18446744073709551616:=ae;have e2:(2 ^ (IntKind.i64.bits-1):Int)=9223372036854775808:=ae;unfold IntKind.wrap;simp only[e,e2];by_cases h:0<=x
 .have h3:x%18446744073709551616=x:=aa;rw[h3];have h4:¬x≥9223372036854775808:=aa;simp[h4]
 have h3:x%18446744073709551616=x+18446744073709551616:=aa;rw[h3];have h4:x+18446744073709551616≥9223372036854775808:=aa;have h5:IntKind.i64.signed=true:=rfl;simp[h4,h5]
def au7(l:c_):iI 7 (eo l)=true:=by simp[iI,Pc.ps]
def DZ(l:c_):((eo l).all fun e=>e.all PV.scalar)=true:=by simp[Pc.ps,PV.scalar]
abbrev FH(l x:c_)(k:Nat):c_:=l.take (k+1)++x++l.drop (k+1)
def agQ(a b:c_):eo (a++b)=eo a++eo b:=af
def ak6(p:Pc)(t:c_)(hl:(p::t).length<=1000000):aK S 132 [.one (.p (.sl (eo (p::t))))] (.one (aU nI 7 (eo (p::t)))):=by
 have hs:=au7 (p::t);have hr:(0+(eo (p::t)).length)*56<=room:=by unfold room;rw[cM];omega
 refine bk c132 ?_;obtain⟨e0,es,hq⟩:∃e0 es,eo (p::t)=e0::es:=⟨_,_,rfl⟩;rw[hq] at hs hr |-;have aI:e0::es≠[]:=af;have sX:aU nI 7 (e0::es)=.own nI 7 (e0::es):=ay aI;rw[sX];unfold room at hr;simp only[js,dC] at hr;simp only[iI,mH] at hs;simp only[go_sem,i132,gI,iI];simp only[hs,hr,not_true_eq_false,if_true,if_false];simp only[go_sem];exact KU A7 rfl
def tu(g ab b:Int)(p:Pc):Pc:=if (p.l.kind==1)&&((p.l.gate==g)&&decide (ab<p.l.aC)) then {p with l:={p.l with aC:=p.l.aC+b}} else p
abbrev kY(l:c_)(g ab b:Int):c_:=l.map (tu g ab b)
def ahL(id:Nat)(es:s_)(c:C)(aj:aB)(v:V)(ao:aB):Prop:=v=.tup []/\grown id nI 7 es (.one c) ao/\Kept (· =id) aj ao
def atD{al:Al}{aj:aB}{id:Nat}{l:c_}{c:C}{g ab b:Int}(o:l=[]\/al.ok id=true)(hl:l.length<=1000000)(hb: -100<=b/\b<=100)(hr:∀p∈l,-1000000<=p.l.aC/\p.l.aC<=1000000)(h:grown id nI 7 (eo l) (.one c) aj):
  ∃v ao,jm S 130 [.one c,vi g,vi ab,vi b] al aj v ao/\ahL id (eo (kY l g ab b)) c aj v ao:=by
 refine nT c130 (iA rfl) ?_;rcases h with ⟨h1,h2⟩|⟨aI,gg,h2,hC⟩
 .cases h2;have hln:l=[]:=by simpa using h1
  subst hln;have hz:¬(((0:Nat):Int)<((0:Nat):Int)):=aa;simp only[go_sem,i130];refine dy (fun k ak ao=>k=0/\ak 10=vi ((0:Nat):Int)/\ak 11=vi ((0:Nat):Int)/\ao=aj) 0 0 (bR _) ?_ ?_
  .simp only[go_sem];exact rfl
  rintro k ak ao _ ⟨rfl,ff,iu,rfl⟩
  simp only[go_sem,i130_l1,ff,iu,hz];exact⟨rfl,.inl ⟨rfl,rfl⟩,fun _ _=>rfl⟩
 cases h2;have o:=o.resolve_left (by simpa using aI);simp only[go_sem,i130];refine dy (fun k ak ao=>ak 0=.one (.hsl id gg 7 0 l.length)/\ak 1=vi g/\ak 2=vi ab/\ak 3=vi b/\ak 10=vi l.length/\ak 11=vi k/\ao id=(gg,some (.arr nI 7 (eo ((kY (l.take k) g ab b)++l.drop k))))/\Kept (· =id) aj ao) 0 l.length (bG _) ?_ ?_
 .simp only[go_sem,hC];refine⟨?_,?_⟩
  .simp[]
  exact Kept.refl _ _
 rintro k ak ao hk ⟨h0,h1,h2,h3,ff,iu,hF,dK⟩
 by_cases aw:k<l.length
 .have aL:((k:Int)<(l.length:Int)):=aa;obtain⟨p,hp⟩:=aM aw;have w1:=cS (n:=k) aa;obtain⟨r1,r2⟩:=hr p (aV hp);have wr:=uZ (x:=p.l.aC+b) aa aa;have An:l.drop k=p::l.drop (k+1):=by
   obtain⟨hh,rfl⟩:=aT.1 hp;exact List.drop_eq_getElem_cons hh
  have hlen:((kY (l.take k) g ab b)++l.drop k).length=l.length:=by simp[kY];omega
  have kr:((kY (l.take k) g ab b)++l.drop k)[k]?=some p:=by
   rw[zI (by simp[kY];omega)];have:k-(kY (l.take k) g ab b).length=0:=by simp[kY];omega
   rw[this,An];rfl
  have iG:((kY (l.take k) g ab b)++l.drop k).set k (tu g ab b p)=(kY (l.take (k+1)) g ab b)++l.drop (k+1):=by
   have e1:(kY (l.take k) g ab b).length=k:=by simp[kY];omega
   rw[List.set_append_right _ _ aa,e1,Nat.sub_self,An,List.set_cons_zero,qq,hp];simp[kY]
  have fV:=kI kr;have Fs:eo (((kY (l.take k) g ab b)++l.drop k).set k (tu g ab b p))=(eo ((kY (l.take k) g ab b)++l.drop k)).set k (tu g ab b p).ps:=by simp[eo,List.map_set]
  rw[iG] at Fs;have BM:tu g ab b p=p->eo ((kY (l.take k) g ab b)++l.drop k)=eo ((kY (l.take (k+1)) g ab b)++l.drop (k+1)):=fun e=>by rw[Fs,e];obtain⟨hh,he⟩:=aT.1 fV;rw[<- he,List.set_getElem_self]
  generalize (kY (l.take k) g ab b)++l.drop k=m at hF kr fV Fs BM hlen;have jq:k<(eo m).length:=by rw[cM];omega
  cases c1:(p.l.kind==1) with
  |false=>have e:=BM (by unfold tu;rw[c1];rfl);simp only[go_sem,i130_l1,h0,h1,h2,h3,ff,iu,hF,fV,Pc.ps,aw,aL,c1,w1,o];exact⟨by rw[e],dK⟩
  |true=>
   cases c2:(p.l.gate==g) with
   |false=>have e:=BM (by unfold tu;rw[c1,c2];rfl);simp only[go_sem,i130_l1,h0,h1,h2,h3,ff,iu,hF,fV,Pc.ps,aw,aL,c1,c2,w1,o];exact⟨by rw[e],dK⟩
   |true=>
    by_cases c3:ab<p.l.aC
    .have e:(tu g ab b p).ps=[.int .i64 p.l.kind,.int .i64 p.l.gate,.int .i64 (p.l.aC+b),.int .i64 p.l.id,.int .i64 p.l.sign,.bool p.l.over,.bool p.d]:=by unfold tu;rw[c1,c2,Bg c3];rfl
     rw[e] at Fs;simp only[go_sem,i130_l1,h0,h1,h2,h3,ff,iu,hF,fV,Pc.ps,aw,aL,c1,c2,c3,w1,wr,o];refine⟨?_,?_⟩
     .first|rw[Fs]|(rw[Fs];rfl)
     exact dK.dU rfl _
    have e:=BM (by unfold tu;rw[c1,c2,Eo c3];rfl);simp only[go_sem,i130_l1,h0,h1,h2,h3,ff,iu,hF,fV,Pc.ps,aw,aL,c1,c2,c3,w1,o];exact⟨by rw[e],dK⟩
 have:k=l.length:=aa;subst this;simp only[go_sem,i130_l1,ff,iu,eI];refine⟨rfl,?_,dK⟩;rw[lf,Ly,jA] at hF;exact .inr ⟨by simpa using aI,gg,by simp[kY],hF⟩
def DR(p:Pc):Bool:=(p.l.kind==1)&&p.d
def pdA(l:c_)(i:Nat):Bool:=match l[i]? with|some p=>DR p|none=>false
def Oy{l:c_}{i:Nat}{p:Pc}(h:l[i]?=some p):pdA l i=DR p:=by simp[pdA,h]
def sQ(l:c_):w_:=(List.range l.length).find? (pdA l)
def alU(p:Pc):aK S 113 [.agg (p.ps.map .p)] (rb (DR p)):=by
 refine bk c113 ?_;unfold DR;cases h:(p.l.kind==1) with
 |true=>simp only[go_sem,i113,Pc.ps,h]
 |false=>simp only[go_sem,i113,Pc.ps,h]
def apm(l:c_)(hl:l.length<=1000000):aK S 112 [.one (.p (.sl (eo l))),.one (.p (.fn 113 [] []))] (ri (match sQ l with|some k=>(k:Int)|none=> -1)):=by
 refine bk c112 ?_;simp only[go_sem,i112];refine dy (fun k ak aj=>ak 0=.one (.p (.sl (eo l)))/\ak 1=.one (.p (.fn 113 [] []))/\ak 7=vi l.length/\ak 8=vi k/\ ∀j,j<k->pdA l j=false) 0 l.length (bG _) ?_ ?_
 .simp only[go_sem];exact⟨rfl,fun j hj=>absurd hj (oN j)⟩
 rintro k ak aj hk ⟨h0,h1,h7,h8,hn⟩
 by_cases aw:k<l.length
 .have aL:((k:Int)<(l.length:Int)):=aa;obtain⟨p,hp⟩:=aM aw;have fV:=kI hp;have w1:=cS (n:=k) aa;have pd:=alU p;have pG:=Oy hp;cases hb:DR p with
  |true=>rw[hb] at pd pG;have hf:sQ l=some k:=Df aw hn pG;simp only[Pc.ps,eh,lQ] at pd;simp only[go_sem,i112_l1,h0,h1,h7,h8,aL,fV,Pc.ps,s113,dZ pd,hf]
  |false=>
   rw[hb] at pd pG;simp only[Pc.ps,eh,lQ] at pd;simp only[go_sem,i112_l1,h0,h1,h7,h8,aw,aL,fV,Pc.ps,s113,dZ pd,w1];intro j hj;rcases nN.1 hj with h|rfl
   .exact hn j h
   exact pG
 have:k=l.length:=aa;subst this;have hf:sQ l=none:=JD hn;simp only[go_sem,i112_l1,i112_r2,h7,h8,eI,hf]
abbrev jL:Nat:=48
def wY(l:c_)(ane k:Nat):ai:=(List.range k).map fun i=>(l.getD ((ane+i)%l.length) ⟨lX,false⟩).l
def atb{l:c_}{f k:Nat}{p:Pc}(h:l[(f+k)%l.length]?=some p):wY l f (k+1)=wY l f k++[p.l]:=by simp[wY,yn,dA,h]
def eL(l:c_):ai:=wY l ((sQ l).getD 0) l.length
abbrev dG(o:ai):s_:=o.map Let.ps
def anL{s1 t1 z1:Nat}{es:s_}{c:C}{x:PV}{aj:aB}(h:grown s1 t1 z1 es (.one c) aj):jd aj (.agg [.p x,c])=some (.agg [.p x,aU t1 z1 es]):=by obtain⟨c',o,hc,h2,h3⟩:=h.jM;cases hc;rcases h3 with rfl|rfl<;>simp[jd,tH,oX,nG,h2,(show Go.Abs.jM aj (.p x)=some (.p x,[],[]) from rfl),apart,vN,tq]
def ac2(F:Nat)(l:c_)(hl:l.length<=1000000)(x1 x2 x3 x4 x5 x6:PV):aK S 83 [.one (.p (.box [.int .i64 F,x1,x2,x3,x4,x5,x6])),.one (.p (.sl (eo l)))] (.agg [.p (.int .i64 F),aU jL 6 (dG (eL l))]):=by
 have px:=apm l hl;have hfd:∃f,(sQ l).getD 0=f/\(l≠[]->f<l.length):=by
  refine⟨_,rfl,fun aI=>?_⟩;cases h:sQ l with
  |none=>exact jl.2 aI
  |some k=>exact gV.1 (IH h)
 obtain⟨f,hf,yV⟩:=hfd;have tc:((sQ l=none/\f=0)\/sQ l=some f):=by
  cases h:sQ l with
  |none=>rw[h] at hf;exact .inl ⟨rfl,hf.symm⟩
  |some k=>rw[h] at hf;exact .inr (congrArg some hf)
 unfold eL;rw[hf];have main:∀(ak:Env) (aj:aB),ak 1=.one (.p (.sl (eo l)))->ak 4=.one (.aZ 5312000000 1 0)->ak 5=.one (.aZ 5312064320 1 0)->ak 6=vi f->ak 17=vi l.length->ak 18=vi ((0:Nat):Int)->aj 5312000000=(1,some (.var [.p (.int .i64 0),.p .nils]))->aj 5312064320=(1,some (.var [.p (.int .i64 F),.p .nils]))->
   W S .all (.loop i83_l1) (nh 0 (zy S .all i83_r2 (nj .all [(4,some (some 2))] fun v aj=>jd aj v=some (.agg [.p (.int .i64 F),aU jL 6 (dG (wY l f l.length))])))) ak aj:=by
  intro ak aj e1 e4 e5 e6 Jw Jx b0 bO;refine dy (fun k ak aj=>ak 1=.one (.p (.sl (eo l)))/\ak 4=.one (.aZ 5312000000 1 0)/\ak 5=.one (.aZ 5312064320 1 0)/\ak 6=vi f/\ak 17=vi l.length/\ak 18=vi k/\aj 5312000000=(1,some (.var [.p (.int .i64 0),.p .nils]))/\ ∃c,aj 5312064320=(1,some (.var [.p (.int .i64 F),c]))/\grown 5312384832 jL 6 (dG (wY l f k)) (.one c) aj) 0 l.length (bG _) ⟨e1,e4,e5,e6,Jw,Jx,b0,.p .nils,bO,.inl ⟨rfl,rfl⟩⟩ ?_;rintro k ak aj hk ⟨h1,h4,h5,h6,jG,gG,b0,c,bO,gc⟩
  by_cases aw:k<l.length
  .have aL:((k:Int)<(l.length:Int)):=aa;have aI:l≠[]:=jl.1 aa;have yV:=yV aI;have w1:=cS (n:=k) aa;have w2:=wrap_add (a:=f) (b:=k) aa;have e2:=w9 (f+k) l.length;have hm:=dr (f+k) (show 0<l.length by omega);obtain⟨p,hp⟩:=aM hm;have fV:=kI hp;have hz:¬((l.length:Int)=0):=aa;have hr:=atb hp;have hle:(wY l f k).length=k:=by simp[wY]
   simp only[go_sem,i83_l1,h1,h5,h6,jG,gG,bO,aL,w2,e2,hz,fV,Pc.ps];refine Bn (site:=5312384832) (id:=5312384832) (bytes:=48) (xs:=[p.l.ps]) (rd:=[5312384768]) (gc.of_eq (aX ae)) (by simp[fU,aO,Let.ps]) (.inl rfl) (by simp only[cM,hle,dC,fe];omega) fun c' bU r u hc hb hru=>?_;have bO1:=(hb 5312064320 ae ae).trans ((aX ae).trans bO);have b01:=(hb 5312000000 ae ae).trans ((aX ae).trans b0);simp only[go_sem,h1,h4,h5,h6,jG,gG,bO1,b01,aw,w1];refine⟨?_,c',rfl,?_⟩
   .rcases hru with ⟨rfl,rfl⟩|⟨rfl,rfl⟩|⟨rfl,rfl⟩<;>kernel_rfl
   rw[hr,dG,kZ];exact hc.of_eq (aX ae)
  have:k=l.length:=aa;subst this;simp only[go_sem,i83_l1,i83_r2,h4,h5,jG,gG,bO,b0,eI];exact anL (gc.of_eq (aX ae))
 refine bk c83 ?_;rcases tc with ⟨hn,rfl⟩|hs
 .rw[hn] at px;have Nx:¬((0:Int)< -1):=ae;simp only[go_sem,i83,s112,eT px];exact main _ _ (by simp only[go_sem]) (by simp only[go_sem]) (by simp only[go_sem]) (by simp only[go_sem];rfl) (by simp only[go_sem]) (by simp only[go_sem];rfl) (by simp only[go_sem]) (by simp only[go_sem])
 rw[hs] at px;simp only[go_sem,i83,s112,eT px];exact main _ _ (by simp only[go_sem]) (by simp only[go_sem]) (by simp only[go_sem]) (by simp only[go_sem];split<;>(first|rfl|(congr 1;simp;omega))) (by simp only[go_sem]) (by simp only[go_sem];rfl) (by simp only[go_sem]) (by simp only[go_sem])
def afw:aK S 81 [] (.agg [.p .wT,.p (.fn 103 [] []),.p (.fn 104 [] []),.p (.fn 105 [] []),.p (.fn 106 [] []),.p (.fn 107 [] []),.p (.fn 108 [] []),.p (.fn 109 [] []),.p (.fn 110 [] []),.p (.fn 111 [] []),.p (.fn 111 [] [])]):=by refine bk c81 ?_;simp only[go_sem,i81];rfl
def gZ(k:Int):Int×Int:=if k=2 then (2,0) else if k=5 then (2,1) else if k=7 then (4,2) else (0,0)
def adG(k:Int):aK S 82 [vi k] (.tup [.one (.p (.int .i64 (gZ k).1)),.one (.p (.int .i64 (gZ k).2))]):=by
 refine bk c82 ?_;unfold gZ;by_cases h2:k=2
 .subst h2;simp only[go_sem,i82];rfl
 by_cases h5:k=5
 .subst h5;simp only[go_sem,i82];rfl
 by_cases h7:k=7
 .subst h7;simp only[go_sem,i82];rfl
 rw[ay h2,ay h5,ay h7];have e2:(k==2)=false:=by simpa using h2
 have e5:(k==5)=false:=by simpa using h5
 have e7:(k==7)=false:=by simpa using h7
 simp only[go_sem,i82,e2,e5,e7];rfl
def aaz{l:c_}(aI:l≠[])(hl:l.length<=1000000):aK S 132 [.one (.p (.sl (eo l)))] (.one (aU nI 7 (eo l))):=by
 cases l with
 |nil=>exact absurd rfl aI
 |cons p t=>exact ak6 p t hl
section
variable {Q:dO} {ak:Env} {aj:aB} {os:h_} {d:w_}
def adx{id:Nat}{l:c_}{c:C}{g ab b:Int}(hl:l.length<=1000000)(hb: -100<=b/\b<=100)(hr:∀p∈l,-1000000<=p.l.aC/\p.l.aC<=1000000)(hg:grown id nI 7 (eo l) (.one c) aj)
  (hK:∀ao,grown id nI 7 (eo (kY l g ab b)) (.one c) ao->(∀i,i≠id->ao i=aj i)->RN S .all os Q (put ak d (.tup [])) ao):gP S .all (.sc 130 [.one c,vi g,vi ab,vi b]) d os Q ak aj:=by
 have ho:l=[]\/(allow (S.ctx .all) 130 [.one c,vi g,vi ab,vi b] aj).ok id=true:=by
  rcases R0 hg with ⟨h,_⟩|h
  .exact .inl (by simpa using h)
  exact .inr (tD (by simp[h]))
 refine sR (P:=ahL id (eo (kY l g ab b)) c aj) Az (atD ho hl hb hr hg) ?_;rintro v ao ⟨rfl,h1,h2⟩
 exact hK ao h1 h2
end
def apZ(fs:q_):∀(j:Nat) (L:a_),∀v∈rF fs j L,v∈L\/v<j+fs.length:=by
 have iG:∀(ds:a_) (L:a_) (x:Nat),∀v∈qo L ds x,v∈L\/v=x:=by
  intro ds
  induction ds with
  |nil=>intro L x v h;exact .inl h
  |cons d ds ih=>
   intro L x v h;rcases ih (L.set d x) x v h with h|h
   .rcases List.mem_or_eq_of_mem_set h with h|h
    .exact .inl h
    exact .inr h
   exact .inr h
 induction fs with
 |nil=>intro j L v h;exact .inl h
 |cons f r ih=>
  intro j L v h;rcases ih (j+1) (qo L f.cq j) v h with h|h
  .rcases iG _ _ _ v h with h|h
   .exact .inl h
   subst h;exact .inr af
  exact .inr (by simp only[dC];omega)
def Ol:Fc:=⟨false,[],[],[],false⟩
def lU(F:Nat)(ls:ai)(d:Nat):Fc:=(eS F ls).getD ((pK F ls).getD d 0) Ol
def XH(F:Nat)(ls:ai):(pK F ls).length=2*ls.length:=by simp[pK,Q1]
def V1(g:cX F ls){d:Nat}(hd:d<2*ls.length):∃j,(pK F ls)[d]?=some j/\(eS F ls)[j]?=some (lU F ls d)/\j<(eS F ls).length:=by
 obtain⟨j,hj⟩:=aM (ls:=pK F ls) (k:=d) (by rw[XH];exact hd);have hn:0<(eS F ls).length:=by rw[acP,g.nw];omega
 have ow:j<(eS F ls).length:=by
  rcases apZ (eS F ls) 0 _ j (aV hj) with h|h
  .have:=SM h;omega
  omega
 refine⟨j,hj,?_,ow⟩;obtain⟨f,hf⟩:=aM ow;unfold lU;rw[dA (l:=pK F ls),hj,nO,dA,hf];rfl
def agc(b:Nat)(r:Int)(d:Bool):Pc:=⟨⟨1,b,r,0,0,false⟩,d⟩
def Pd(ls:ai)(av b c:Nat)(f:Fc)(side:Bool):c_:=FH (kY (pieces ls) b c 2) [agc b (if f.ie !=side then ((c+2:Nat):Int) else ((c+1:Nat):Int)) f.ie,agc b (if f.ie !=side then ((c+1:Nat):Int) else ((c+2:Nat):Int)) (!f.ie)] av
def amR(F:Nat)(ls:ai)(av b c:Nat):Option c_:=
 if (b,c)∈(lU F ls (2*av)).places then some (Pd ls av b c (lU F ls (2*av)) false)
 else if (b,c)∈(lU F ls (2*av+1)).places then some (Pd ls av b c (lU F ls (2*av+1)) true) else none
def kR (o:Option c_):RV:=.tup [.one (aU nI 7 (eo (o.getD []))),.one (.p (.bool o.isSome))]
def asH(g:cX F ls):∀p∈pieces ls,-1000000<=p.l.aC/\p.l.aC<=1000000:=by
 intro p hp;obtain⟨i,hi⟩:=iJ hp;have tO:i<ls.length:=by rw[<- fK];exact(aT.1 hi).1
 obtain⟨l,hl⟩:=aM tO;rw[qP hl] at hi;cases hi;rcases g.ok.kinds l (aV hl) with h|h
 .have hg:=g.ok.ax.fy l (aV hl) h;have:=hg.r0;have:=hg.r1;have hc:cg ls l.gate.toNat<=ls.length:=sL _ _;have:=g.len;simp only;omega
 have:=(Om (f:=F) h).1 (g.bad l (aV hl));simp only[this.1.2];omega
def lmR(ls:ai)(av:Nat)(sg:Int)(o:Bool):c_:=FH (pieces ls) [⟨⟨2,0,0,((aq Let.aA ls/2+1:Nat):Int),sg,o⟩,false⟩,⟨⟨2,0,0,((aq Let.aA ls/2+1:Nat):Int),sg,!o⟩,false⟩] av
def jK(n:Nat)(i:Int):Bool:=decide (0<=i)&&decide (i<(n:Int))
def aeF(i:Int)(n:Nat):aK S 102 [vi i,.one (.p (.box [.int .i64 n]))] (rb (jK n i)):=by
 refine bk c102 ?_;unfold jK;by_cases h1:0<=i
 .by_cases h2:i<(n:Int)
  .simp only[go_sem,i102,h1,h2]
  simp only[go_sem,i102,h1,h2]
 simp only[go_sem,i102,h1]
def DY(l:ai):((dG l).all fun e=>e.all PV.scalar)=true:=by simp[Let.ps,PV.scalar]
abbrev jy(F:Nat)(L:ai):RV:=.tup [.agg [.p (.int .i64 F),aU jL 6 (dG L)],.one (.p (.int .i64 0))]
def sP(F:Nat)(ls:ai)(k:Int):Option c_->RV
 |none=>nJ 4
 |some L=>if (400:Int)<(ls.length:Int)+(gZ k).1\/(100:Int)<((aq Let.aA ls/2:Nat):Int)+(gZ k).2 then nJ 7 else jy F (eL L)
section
variable {h:Nat}
end
section
variable {h:Nat}
end
def PX(L:c_):(eL L).length=L.length:=by simp[eL,wY]
def QP(l x:c_)(k:Nat):(FH l x k).length=l.length+x.length:=by simp only[FH,fS,iK,lO];omega
end
end Go.Abs
