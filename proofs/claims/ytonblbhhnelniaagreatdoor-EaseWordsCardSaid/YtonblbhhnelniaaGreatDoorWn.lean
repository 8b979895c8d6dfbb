/- A part. -/
import Derived.Test.YtonblbhhnelniaaGreatDoorWh
set_option linter.all false
set_option maxRecDepth 100000
set_option maxHeartbeats 16000000
namespace Go.Abs
section
variable{F:Nat}{ls:List Let}
theorem ad1{e:List PV}(h:e.length=1):∃x0,e=[x0]:=by
 match e,h with
 |[a],_=>exact⟨a,rfl⟩
theorem ad2{e:List PV}(h:e.length=2):∃x0 x1,e=[x0,x1]:=by
 match e,h with
 |[a,b],_=>exact⟨a,b,rfl⟩
structure wU (es fs:List (List PV)) (k:Nat):Prop where
 len:fs.length=es.length
 at':∀i,i<es.length->fs[i]?=if i<k\/es.length-1-i<k then es[es.length-1-i]? else es[i]?
theorem wU.start(es:List (List PV)):wU es es 0:=⟨rfl,fun i _=>by rw[if_neg aa]⟩
theorem wU.step{es fs:List (List PV)}{k:Nat}{a b:List PV}(h:wU es fs k)(hk:k<es.length-1-k)(ha:es[k]?=some a)(hb:es[es.length-1-k]?=some b):
  fs[k]?=some a/\fs[es.length-1-k]?=some b/\wU es ((fs.set k b).set (es.length-1-k) a) (k+1):=by
 have hlen:=h.len;refine⟨?_,?_,⟨by rw[th,th];exact hlen,fun i hi=>?_⟩⟩
 .rw[h.at' k aa,if_neg aa,ha]
 .rw[h.at' _ aa,if_neg aa,hb]
 rw[oI,th];by_cases e1:es.length-1-k=i
 .rw[if_pos e1,if_pos aa,if_pos aa,show es.length-1-i=k by omega,ha]
 rw[if_neg e1,oI];by_cases e2:k=i
 .subst e2;rw[if_pos rfl,if_pos aa,if_pos aa,hb]
 rw[if_neg e2,h.at' i hi];by_cases e3:i<k\/es.length-1-i<k
 .rw[if_pos e3,if_pos aa]
 rw[if_neg e3,if_neg aa]
theorem wU.done{es fs:List (List PV)}{k:Nat}(h:wU es fs k)(hk:¬k<es.length-1-k):fs=es.reverse:=by
 refine vF fun i=>?_;rcases Nat.lt_or_ge i es.length with hi|hi
 .rw[h.at' i hi,List.getElem?_reverse hi];by_cases e:i<k\/es.length-1-i<k
  .rw[if_pos e]
  rw[if_neg e,show es.length-1-i=i by omega]
 rw[lS (by rw[h.len];exact hi),lS (by rw[qD];exact hi)]
def GW(id ty z:Nat)(es:List (List PV))(c:C)(aj:aq)(v:V)(ao:aq):Prop:=v=.tup []/\grown id ty z es.reverse (.one c) ao/\Kept (· =id) aj ao
theorem afS{al:Al}{aj:aq}{id ty:Nat}{es:List (List PV)}{c:C}(o:es=[]\/al.ok id=true)(hl:es.length<=1000000)(mD:∀e∈es,e.length=1/\ ∀v∈e,v.norm=v)(h:grown id ty 1 es (.one c) aj):
  ∃v ao,iJ S 70 [.one c] al aj v ao/\GW id ty 1 es c aj v ao:=by
 refine mr c70 (gY rfl) ?_;rcases h with ⟨rfl,h2⟩|⟨aF,g,h2,hC⟩
 .cases h2;have w0:IntKind.i64.wrap (((0:Nat):Int)-1)= -1:=ae;have hz:¬((0:Int)< -1):=ae;simp only[go_sem,i70,w0];refine cV (fun k ak ao=>k=0/\ak 2=vi 0/\ak 3=vi (-1)/\ao=aj) 0 0 (aX _) ?_ ?_
  .simp only[go_sem]
  rintro k ak ao _ ⟨rfl,h2,h3,rfl⟩
  simp only[go_sem,i70_l1,h2,h3,hz];exact⟨rfl,.inl ⟨rfl,rfl⟩,fun _ _=>rfl⟩
 cases h2;have o:=o.resolve_left aF;have w0:=yE (a:=es.length) aa;simp only[go_sem,i70,w0];refine cV (fun k ak ao=>ak 0=.one (.hsl id g 1 0 es.length)/\ak 2=vi k/\ak 3=vi ((es.length:Int)-1-(k:Int))/\ ∃fs,ao id=(g,some (.arr ty 1 fs))/\wU es fs k/\Kept (· =id) aj ao) 0 es.length (bd _) ?_ ?_
 .simp only[go_sem];refine⟨rfl,af,es,hC,wU.start es,Kept.refl _ _⟩
 rintro k ak ao hk ⟨h0,h2,h3,fs,hF,hI,dd⟩
 by_cases aw:k<es.length-1-k
 .have e1:((es.length:Int)-1-(k:Int))=((es.length-1-k:Nat):Int):=aa;rw[e1] at h3;have aL:((k:Int)<((es.length-1-k:Nat):Int)):=aa;have w1:=cK (n:=k) aa;have w2:IntKind.i64.wrap (((es.length-1-k:Nat):Int)-1)=((es.length:Int)-1-((k+1:Nat):Int)):=by
   rw[yE aa];omega
  obtain⟨a,ha⟩:=aK (show k<es.length by omega);obtain⟨b,hb⟩:=aK (show es.length-1-k<es.length by omega);obtain⟨fa,fb,we⟩:=hI.step aw ha hb;obtain⟨la,na⟩:=mD a (aU ha);obtain⟨lb,nb⟩:=mD b (aU hb);obtain⟨x0,rfl⟩:=ad1 la;obtain⟨y0,rfl⟩:=ad1 lb;have Mx:=na x0 af;have My:=nb y0 af;have rR:=hI.len;have Ge:¬(k=es.length-1-k):=aa;have ack:¬(es.length-1-k=k):=aa;have l1:k<fs.length:=aa;have l2:es.length-1-k<fs.length:=aa;have l3:k<es.length:=aa;have l4:es.length-1-k<es.length:=aa;simp only[go_sem,i70_l1,h0,h2,h3,hF,aL,fa,fb,w1,w2,o,l1,l3,l4,Ge,Mx,My,oI];refine⟨aH,_,rfl,we,?_⟩;exact(dd.dB rfl _).dB rfl _
 have aL:¬((k:Int)<(es.length:Int)-1-(k:Int)):=aa;simp only[go_sem,i70_l1,h2,h3,aL];refine⟨rfl,?_,dd⟩;rw[hI.done aw] at hF;exact .inr ⟨by simpa using aF,g,by rw[qD],hF⟩
theorem arL{al:Al}{aj:aq}{id ty:Nat}{es:List (List PV)}{c:C}(o:es=[]\/al.ok id=true)(hl:es.length<=1000000)(mD:∀e∈es,e.length=2/\ ∀v∈e,v.norm=v)(h:grown id ty 2 es (.one c) aj):
  ∃v ao,iJ S 126 [.one c] al aj v ao/\GW id ty 2 es c aj v ao:=by
 refine mr c126 (gY rfl) ?_;rcases h with ⟨rfl,h2⟩|⟨aF,g,h2,hC⟩
 .cases h2;have w0:IntKind.i64.wrap (((0:Nat):Int)-1)= -1:=ae;have hz:¬((0:Int)< -1):=ae;simp only[go_sem,i126,w0];refine cV (fun k ak ao=>k=0/\ak 2=vi 0/\ak 3=vi (-1)/\ao=aj) 0 0 (aX _) ?_ ?_
  .simp only[go_sem]
  rintro k ak ao _ ⟨rfl,h2,h3,rfl⟩
  simp only[go_sem,i126_l1,h2,h3,hz];exact⟨rfl,.inl ⟨rfl,rfl⟩,fun _ _=>rfl⟩
 cases h2;have o:=o.resolve_left aF;have w0:=yE (a:=es.length) aa;simp only[go_sem,i126,w0];refine cV (fun k ak ao=>ak 0=.one (.hsl id g 2 0 es.length)/\ak 2=vi k/\ak 3=vi ((es.length:Int)-1-(k:Int))/\ ∃fs,ao id=(g,some (.arr ty 2 fs))/\wU es fs k/\Kept (· =id) aj ao) 0 es.length (bd _) ?_ ?_
 .simp only[go_sem];refine⟨rfl,af,es,hC,wU.start es,Kept.refl _ _⟩
 rintro k ak ao hk ⟨h0,h2,h3,fs,hF,hI,dd⟩
 by_cases aw:k<es.length-1-k
 .have e1:((es.length:Int)-1-(k:Int))=((es.length-1-k:Nat):Int):=aa;rw[e1] at h3;have aL:((k:Int)<((es.length-1-k:Nat):Int)):=aa;have w1:=cK (n:=k) aa;have w2:IntKind.i64.wrap (((es.length-1-k:Nat):Int)-1)=((es.length:Int)-1-((k+1:Nat):Int)):=by
   rw[yE aa];omega
  obtain⟨a,ha⟩:=aK (show k<es.length by omega);obtain⟨b,hb⟩:=aK (show es.length-1-k<es.length by omega);obtain⟨fa,fb,we⟩:=hI.step aw ha hb;obtain⟨la,na⟩:=mD a (aU ha);obtain⟨lb,nb⟩:=mD b (aU hb);obtain⟨x0,x1,rfl⟩:=ad2 la;obtain⟨y0,y1,rfl⟩:=ad2 lb;have Mx:=na x0 af;have VB:=na x1 af;have My:=nb y0 af;have VC:=nb y1 af;have rR:=hI.len;have Ge:¬(k=es.length-1-k):=aa;have ack:¬(es.length-1-k=k):=aa;have l1:k<fs.length:=aa;have l2:es.length-1-k<fs.length:=aa;have l3:k<es.length:=aa;have l4:es.length-1-k<es.length:=aa;simp only[go_sem,i126_l1,h0,h2,h3,hF,aL,fa,fb,w1,w2,o,l1,l3,l4,Ge,Mx,VB,My,VC,oI];refine⟨aH,_,rfl,we,?_⟩;exact(dd.dB rfl _).dB rfl _
 have aL:¬((k:Int)<(es.length:Int)-1-(k:Int)):=aa;simp only[go_sem,i126_l1,h2,h3,aL];refine⟨rfl,?_,dd⟩;rw[hI.done aw] at hF;exact .inr ⟨by simpa using aF,g,by rw[qD],hF⟩
theorem QE{site ty z:Nat}{es:List (List PV)}{c:C}{aj:aq}(h:grown site ty z es (.one c) aj):(es=[]/\jd aj (.one c)=[])\/jd aj (.one c)=[site]:=by
 rcases h with ⟨h1,h2⟩|⟨h1,g,h2,h3⟩
 .cases h2;exact .inl ⟨h1,JF⟩
 cases h2;exact .inr (show jO aj 6 (.hsl site g z 0 es.length)=[site] from De (n:=5) h3)
section
variable {al:Al} {Q:dy} {ak:Env} {aj:aq} {os:List bl} {d:Option Nat}
theorem abJ{f id ty z:Nat}{es:List (List PV)}{c:C}(VM:∀ {al:Al} {aj:aq},es=[]\/al.ok id=true->grown id ty z es (.one c) aj->∃v ao,iJ S f [.one c] al aj v ao/\GW id ty z es c aj v ao)(hs:S.sites f=[f])(hg:grown id ty z es (.one c) aj)(oid:al.ok id=true)(hf:al.fs.contains f=true)
  (hK:∀ao,grown id ty z es.reverse (.one c) ao->(∀i,i≠id->ao i=aj i)->RN S al os Q (put ak d (.tup [])) ao):gP S al (.sc f [.one c]) d os Q ak aj:=by
 refine rM (P:=GW id ty z es c aj) (holds_of ?_ ?_) (VM ?_ hg) ?_
 .show al.ff ([V.one c].map (jd aj)).flatten=true;rcases QE hg with ⟨_,h⟩|h
  .simp[h,Al.ff]
  simp[h,Al.ff,oid]
 .show(S.sites f).all al.fs.contains=true;rw[hs];simp only[lk,oG,hf,wY]
 .rcases QE hg with ⟨h,_⟩|h
  .exact .inl h
  exact .inr (sB (by simp[h]))
 rintro v ao ⟨rfl,h1,h2⟩
 exact hK ao h1 h2
end
theorem as1:S.sites 126=[126]:=ah
theorem as0:S.sites 70=[70]:=ah
theorem NJ(ok:eS F ls){x:Nat}(h:x<nD ls):aT ls x<nD ls:=Xm ok.nL ok.hp h
abbrev rY(id:Nat):Prop:=je id=106
structure FE (ls:List Let) (idS gS idB gB g8 gF:Nat) (sp:List Bool) (f:Fc) (cd cp cf:C) (aj:aq):Prop where
 bS:aj idS=(gS,some (.arr 4 1 (bP sp)))
 bB:aj idB=(gB,some (.arr 4 1 (bP (BT ls))))
 b8:aj 6784000000=(g8,some (.var [.p (.bool false),.p .nils,.p .nils,.p .nils,.p (.bool false)]))
 bF:aj 6784128448=(gF,some (.var [.p (.bool f.fZ),cd,cp,cf,.p (.bool f.outer)]))
 gd:grown 6784512256 3 1 (nP f.dh) (.one cd) aj
 gp:grown 6784896192 Db 2 (ow f.places) (.one cp) aj
 gf:grown 6784896448 3 1 (nP f.xB) (.one cf) aj
theorem ah4(ok:eS F ls){f:Fc}{x k:Nat}(hx:x<nD ls)(h:f.dh.length<=k/\f.places.length<=k*(2*F+2)/\f.xB.length<=k*(2*F+2)):(f.add F ls x).dh.length<=k+1/\(f.add F ls x).places.length<=(k+1)*(2*F+2)/\(f.add F ls x).xB.length<=(k+1)*(2*F+2):=by
 obtain⟨i1,i2,i3⟩:=h;rw[Nat.succ_mul];unfold Fc.add;by_cases h:x<2*ls.length
 .rw[if_pos h];simp only[dX,cq,dN];exact⟨aa,aa,aa⟩
 rw[if_neg h];have hj:(x-2*ls.length)/2<(aE ls).length:=by unfold nD at hx;omega
 have l1:=afn ok hj;have l2:=afm ok hj;refine⟨by simp only;omega,?_,?_⟩
 .simp only[dX];split<;>(try rw[qD])<;>omega
 simp only[dX];split<;>(try rw[qD])<;>omega
theorem alc{al:Al}(ok:eS F ls)(hF:F<=1000)(okf:∀id,rY id->al.ok id=true){idS gS idB gB g8 gF d:Nat}(oS:al.ok idS=true)(nS:¬rY idS)(nB:¬rY idB)(nSB:idS≠idB)(f1:al.fs.contains 126=true)(f2:al.fs.contains 70=true)(hd:d<2*ls.length){Q:dy}:
  ∀(fuel k x:Nat) (gU:List Bool) (f:Fc) (ak:Env) (aj:aq) (cd cp cf:C),ak 0=.one (.p (mv F ls))->ak 2=.one (.hsl idS gS 1 0 (2*ls.length))->ak 8=.one (.bk 6784000000 g8 0)->ak 9=vi ls.length->ak 10=vi (aE ls).length->ak 11=.one (.bk 6784128448 gF 0)->ak 12=vi x->
   FE ls idS gS idB gB g8 gF (gU.take (2*ls.length)) f cd cp cf aj->gU.length=nD ls->x<nD ls->Inv (aT ls) (nD ls) d gU x->Bs gU<fuel->(k+fuel<=5000000)->(f.dh.length<=k/\f.places.length<=k*(2*F+2)/\f.xB.length<=k*(2*F+2))->
   (∀aD ao vR mV vS,aD 8=ak 8->aD 11=ak 11->FE ls idS gS idB gB g8 gF ((fQ (aT ls) fuel x gU).2.take (2*ls.length)) ((fQ (aT ls) fuel x gU).1.foldl (Fc.add F ls) f) vR mV vS ao->(∀id,¬(rY id\/id=idS)->ao id=aj id)->Q .normal aD ao)->
   W S al (.loop i106_l1) (nJ 0 Q) ak aj:=by
 have hl:=ok.hl;have iK:(aE ls).length<=1000000:=ll (yP ls ls.length) hl;have iS:nD ls<=4000000:=by unfold nD;omega
 have m2:=yF (a:=ls.length) aa;have k0:al.ok 6784000000=true:=okf _ rfl;have kF:al.ok 6784128448=true:=okf _ rfl;have kd0:al.ok 6784512192=true:=okf _ rfl;have kd:al.ok 6784512256=true:=okf _ rfl;have kp:al.ok 6784896192=true:=okf _ rfl;have kf:al.ok 6784896448=true:=okf _ rfl;have kr1:al.ok 6784640128=true:=okf _ rfl;have kr2:al.ok 6784640129=true:=okf _ rfl;have hm:=maps ok;intro fuel
 induction fuel with
 |zero=>intro k x gU f ak aj cd cp cf _ _ _ _ _ _ _ _ _ _ _ h;omega
 |succ fuel ih=>
  intro k x gU f ak aj cd cp cf h0 h2 h8 h9 dF dK gA hB Ed AY hi hu hk hlen hq;have hle:=hm.le;obtain⟨l1,l2,l3⟩:=hlen;have amv:k*(2*F+2)<=5000000*2002:=Nat.mul_le_mul aa aa;have En:=ah4 ok AY ⟨l1,l2,l3⟩;unfold fQ at hq;have nSi:∀ {a:Nat},rY a->a≠idS:=fun h e=>nS (e▸h);have nBi:∀ {a:Nat},rY a->a≠idB:=fun h e=>nB (e▸h);have nF:¬(6784128448=idS):=nSi rfl;refine sA ?_;cases hs:gU.getD x true with
  |true=>
   have hxd:=hi.i4 hs;have aw:x<2*ls.length:=aa;have aL:((x:Int)<((2*ls.length:Nat):Int)):=aa;rw[hs] at hq;simp only[if_true] at hq;have hb:(gU.take (2*ls.length))[x]?=some true:=by
    have h1:=W3 aw (show 2*ls.length<=gU.length by omega);rw[show sn gU x=true from hs,de] at h1;have zL:x<(gU.take (2*ls.length)).length:=by rw[eQ];omega
    obtain⟨b,hb⟩:=aK zL;rw[hb] at h1 ⊢;exact congrArg some h1
   have ng:=uq hb;simp only[go_sem,i106_l1,h0,h2,h9,gA,m2,aL,aw,hB.bS,ng,oS];exact hq _ _ cd cp cf (by simp only[go_sem]) (by simp only[go_sem]) hB (fun _ _=>rfl)
  |false=>
   have I0:gU[x]?=some false:=by
    rw[de] at hs;cases h1:gU[x]? with
    |none=>rw[h1] at hs;cases hs
    |some b=>rw[h1] at hs;exact congrArg some hs
   have Gq:=Re I0;have pt:=ZF ok x (by unfold nD at AY;exact AY);have cE:=hi.step hm Ed AY hs;rw[hs] at hq;simp only[dx,if_false,zZ] at hq;by_cases xN:x<2*ls.length
   .have aL:((x:Int)<((2*ls.length:Nat):Int)):=aa;have hb:(gU.take (2*ls.length))[x]?=some false:=by rw[jt,if_pos xN];exact I0
    have ng:=uq hb;have iH:=KH (gU.take (2*ls.length)) x true;rw[agW] at iH;have LD:f.add F ls x={f with dh:=f.dh++[x]}:=by unfold Fc.add;rw[if_pos xN]
    simp only[go_sem,i106_l1,h2,h9,dK,gA,m2,aL,xN,hB.bS,hB.bF,ng,iH,oS,kF,kd0,nF];refine O0 (site:=6784512256) (id:=6784512256) (bytes:=8) (xs:=[[.int .i64 (x:Int)]]) (rd:=[6784512192]) (by simp[kd,kd0]) (hB.gd.of_eq ((aP ae).trans (aP (nSi rfl)))) (by simp[ez,aM]) (.inl rfl) (by simp only[cF,cq,dN];omega) fun c aZ hc aV=>?_;have IE:∀i,i≠6784512192->i≠6784512256->i≠idS->aZ i=aj i:=fun i a b c=>(aV i b b).trans ((aP a).trans (aP c))
    have amP:=(aV idS (nSi rfl).symm (nSi rfl).symm).trans ((aP (nSi rfl).symm).trans sZ);have FA:=(IE 6784128448 ae ae (nSi rfl)).trans hB.bF;simp only[go_sem,FA,h0,dK,gA,kF,s88,FW pt];refine ih (k+1) (aT ls x) (gU.set x true) (f.add F ls x) _ _ c cp cf ?_ ?_ ?_ ?_ ?_ ?_ ?_ ?_ (by rw[th];exact Ed) (NJ ok AY) cE aa aa En ?_
    .simp only[go_sem,h0]
    .simp only[go_sem,h2]
    .simp only[go_sem,h8]
    .simp only[go_sem,h9]
    .simp only[go_sem,dF]
    .simp only[go_sem,dK]
    .simp only[go_sem]
    .rw[LD];refine⟨?_,?_,?_,sZ,?_,?_,?_⟩
     .exact(aP (nSi rfl).symm).trans amP
     .exact(aP (nBi rfl).symm).trans ((IE _ (nBi rfl).symm (nBi rfl).symm nSB.symm).trans hB.bB)
     .exact(aP ae).trans ((IE _ ae ae (nSi rfl)).trans hB.b8)
     .exact(Jk _ _▸hc.of_eq (aP ae))
     .exact(hB.gp.of_eq (IE _ ae ae (nSi rfl))).of_eq (aP ae)
     exact(hB.gf.of_eq (IE _ ae ae (nSi rfl))).of_eq (aP ae)
    intro aD ao vR mV vS q8 yu tG dd;refine hq aD ao vR mV vS (by rw[q8];simp only[go_sem]) (by rw[yu];simp only[go_sem]) tG fun id hn=>?_;have a:∀y,rY y->id≠y:=fun y hy e=>hn (.inl (e▸hy));exact(dd id hn).trans ((aP (a _ rfl)).trans (IE id (a _ rfl) (a _ rfl) fun e=>hn (.inr e)))
   have hj:(x-2*ls.length)/2<(aE ls).length:=by unfold nD at AY;omega
   have tO:=arN ok hF hj;have lP:=afn ok hj;have lF:=afm ok hj;have F7:¬((x:Int)<((2*ls.length:Nat):Int)):=aa;have ws:=XB (a:=x) (b:=2*ls.length) aa aa;have wq:=wrap_small (n:=(x-2*ls.length)/2) aa;have w2:=Kj (a:=(aE ls).length) aa aa;have Pd:((((x-2*ls.length)/2:Nat):Int)==(((aE ls).length-1:Nat):Int))=decide ((x-2*ls.length)/2+1=(aE ls).length):=by
    by_cases h:(x-2*ls.length)/2+1=(aE ls).length
    .rw[decide_eq_true h];simp;omega
    rw[decide_eq_false h];simp;omega
   have nk:(f.add F ls x).outer=(f.outer||decide ((x-2*ls.length)/2+1=(aE ls).length)):=by unfold Fc.add;rw[if_neg xN]
   have Lz:(f.add F ls x).fZ=f.fZ:=by unfold Fc.add;rw[if_neg xN]
   have LW:(f.add F ls x).dh=f.dh:=by unfold Fc.add;rw[if_neg xN]
   have Gi:(f.add F ls x).places=f.places++(if x%2=0 then tY F ls ((x-2*ls.length)/2) else (tY F ls ((x-2*ls.length)/2)).reverse):=by unfold Fc.add;rw[if_neg xN]
   have Mg:(f.add F ls x).xB=f.xB++(if x%2=0 then Da F ls ((x-2*ls.length)/2) else (Da F ls ((x-2*ls.length)/2)).reverse):=by unfold Fc.add;rw[if_neg xN]
   generalize f.add F ls x=f' at nk Lz LW Gi Mg hq En;have kA:S.lone 6784640128=false:=ah;have sc1:∀l:List (Nat×Nat),((ow l).all fun e=>e.all PV.scalar)=true:=fun l=>by simp[PV.scalar]
   have sc2:∀l:List Nat,((nP l).all fun e=>e.all PV.scalar)=true:=fun l=>by simp[PV.scalar]
   have hnP:∀l:List (Nat×Nat),∀e∈ow l,e.length=2/\ ∀v∈e,v.norm=v:=fun l e he=>by obtain⟨a,_,rfl⟩:=dq.1 he;exact⟨rfl,fun v hv=>by simp at hv;rcases hv with rfl|rfl<;>rfl⟩
   have hnF:∀l:List Nat,∀e∈nP l,e.length=1/\ ∀v∈e,v.norm=v:=fun l e he=>by obtain⟨a,_,rfl⟩:=dq.1 he;exact⟨rfl,fun v hv=>by simp at hv;rcases hv with rfl;rfl⟩
   have rA:S.shared 126=true:=ah;have shI:S.shared 70=true:=ah;have lH:(gU.set x true).take (2*ls.length)=gU.take (2*ls.length):=agV aa;generalize tY F ls ((x-2*ls.length)/2)=PP at*;generalize Da F ls ((x-2*ls.length)/2)=FF at*;simp only[go_sem,i106_l1,h0,h9,gA,m2,F7,ws,wq,iI,jC,s125];refine alV (by simp[kr1,kr2]) tO kA (sc1 _) (sc2 _) fun c e bG hc he hb=>?_;by_cases dL:x%2=0
   .have MF:((x:Int).tmod 2==1)=false:=by rw[pQ,dL];rfl
    rw[if_pos dL] at Gi Mg;have hP:=hc;have hE:=he;have Cp:∀i,i≠6784640128->i≠6784640129->bG i=aj i:=hb;have bFN:=(Cp 6784128448 ae ae).trans hB.bF;simp only[go_sem,iI,MF,bFN,dK,gA,kF];obtain⟨rP,hxP,Gm⟩:=hP.elems;refine FI (site:=6784896192) (id:=6784896192) (bytes:=16) (by rcases Gm with rfl|rfl<;>simp[kp,kr1]) (hB.gp.of_eq (Cp _ ae ae)) hxP hP.gC (by simp only[cF];omega) fun c2 iE r1 u1 qP jv ky=>?_
    have FA:=(jv 6784128448 ae ae).trans bFN;simp only[go_sem,FA,dK,kF];obtain⟨rE,hxE,Gl⟩:=(hE.of_eq (jv _ ae ae)).elems;refine FI (site:=6784896448) (id:=6784896448) (bytes:=8) (by rcases Gl with rfl|rfl<;>simp[kf,kr2]) (hB.gf.of_eq ((jv _ ae ae).trans (Cp _ ae ae))) hxE hE.gC (by simp only[cF];omega) fun c3 Ae r2 u2 LK zj sN=>?_
    have BR:=(zj 6784128448 ae ae).trans FA;have dk:∀i,i≠6784640128->i≠6784640129->i≠6784896192->i≠6784896448->Ae i=aj i:=fun i a b c d=>(zj i d d).trans ((jv i c c).trans (Cp i a b));have LJ:grown 6784896192 Db 2 (ow f'.places) (.one c2) Ae:=by rw[Gi,Jz];exact qP.of_eq (zj _ ae ae)
    have LN:grown 6784896448 3 1 (nP f'.xB) (.one c3) Ae:=by rw[Mg,Jk];exact LK
    clear qP LK;cases ho:f.outer with
    |true=>
     rw[ho] at BR;simp only[go_sem,BR,h0,dK,gA,kF,s88,FW pt];refine⟨?_,?_⟩
     .rcases Gm with rfl|rfl<;>rcases Gl with rfl|rfl<;>rcases ky with ⟨rfl,rfl⟩|⟨rfl,rfl⟩|⟨rfl,rfl⟩<;>rcases sN with ⟨rfl,rfl⟩|⟨rfl,rfl⟩|⟨rfl,rfl⟩<;>kernel_rfl
     refine ih (k+1) (aT ls x) (gU.set x true) f' _ _ cd c2 c3 ?_ ?_ ?_ ?_ ?_ ?_ ?_ ?_ (by rw[th];exact Ed) (NJ ok AY) cE aa aa En ?_
     .simp only[go_sem,h0]
     .simp only[go_sem,h2]
     .simp only[go_sem,h8]
     .simp only[go_sem,h9]
     .simp only[go_sem,dF]
     .simp only[go_sem,dK]
     .simp only[go_sem]
     .rw[lH];refine⟨?_,?_,?_,?_,?_,?_,?_⟩
      .exact(aP (nSi rfl).symm).trans ((aP (nSi rfl).symm).trans ((aP (nSi rfl).symm).trans ((dk _ (nSi rfl).symm (nSi rfl).symm (nSi rfl).symm (nSi rfl).symm).trans hB.bS)))
      .exact(aP (nBi rfl).symm).trans ((aP (nBi rfl).symm).trans ((aP (nBi rfl).symm).trans ((dk _ (nBi rfl).symm (nBi rfl).symm (nBi rfl).symm (nBi rfl).symm).trans hB.bB)))
      .exact(aP ae).trans ((aP ae).trans ((aP ae).trans ((dk _ ae ae ae ae).trans hB.b8)))
      .rw[sZ,Lz,nk,ho];rfl
      .rw[LW];exact hB.gd.of_eq ((aP ae).trans ((aP ae).trans ((aP ae).trans (dk _ ae ae ae ae))))
      .exact LJ.of_eq ((aP ae).trans ((aP ae).trans (aP ae)))
      exact LN.of_eq ((aP ae).trans ((aP ae).trans (aP ae)))
     intro aD ao vR mV vS q8 yu tG dd;refine hq aD ao vR mV vS (by rw[q8];simp only[go_sem]) (by rw[yu];simp only[go_sem]) tG fun id hn=>?_;have a:∀y,rY y->id≠y:=fun y hy e=>hn (.inl (e▸hy));exact(dd id hn).trans ((aP (a _ rfl)).trans ((aP (a _ rfl)).trans ((aP (a _ rfl)).trans (dk id (a _ rfl) (a _ rfl) (a _ rfl) (a _ rfl)))))
    |false=>
     rw[ho] at BR;simp only[go_sem,BR,h0,dF,dK,gA,kF,w2,Pd,s88,FW pt];refine⟨?_,?_⟩
     .rcases Gm with rfl|rfl<;>rcases Gl with rfl|rfl<;>rcases ky with ⟨rfl,rfl⟩|⟨rfl,rfl⟩|⟨rfl,rfl⟩<;>rcases sN with ⟨rfl,rfl⟩|⟨rfl,rfl⟩|⟨rfl,rfl⟩<;>kernel_rfl
     refine ih (k+1) (aT ls x) (gU.set x true) f' _ _ cd c2 c3 ?_ ?_ ?_ ?_ ?_ ?_ ?_ ?_ (by rw[th];exact Ed) (NJ ok AY) cE aa aa En ?_
     .simp only[go_sem,h0]
     .simp only[go_sem,h2]
     .simp only[go_sem,h8]
     .simp only[go_sem,h9]
     .simp only[go_sem,dF]
     .simp only[go_sem,dK]
     .simp only[go_sem]
     .rw[lH];refine⟨?_,?_,?_,?_,?_,?_,?_⟩
      .exact(aP (nSi rfl).symm).trans ((aP (nSi rfl).symm).trans ((aP (nSi rfl).symm).trans ((dk _ (nSi rfl).symm (nSi rfl).symm (nSi rfl).symm (nSi rfl).symm).trans hB.bS)))
      .exact(aP (nBi rfl).symm).trans ((aP (nBi rfl).symm).trans ((aP (nBi rfl).symm).trans ((dk _ (nBi rfl).symm (nBi rfl).symm (nBi rfl).symm (nBi rfl).symm).trans hB.bB)))
      .exact(aP ae).trans ((aP ae).trans ((aP ae).trans ((dk _ ae ae ae ae).trans hB.b8)))
      .rw[sZ,Lz,nk,ho];rfl
      .rw[LW];exact hB.gd.of_eq ((aP ae).trans ((aP ae).trans ((aP ae).trans (dk _ ae ae ae ae))))
      .exact LJ.of_eq ((aP ae).trans ((aP ae).trans (aP ae)))
      exact LN.of_eq ((aP ae).trans ((aP ae).trans (aP ae)))
     intro aD ao vR mV vS q8 yu tG dd;refine hq aD ao vR mV vS (by rw[q8];simp only[go_sem]) (by rw[yu];simp only[go_sem]) tG fun id hn=>?_;have a:∀y,rY y->id≠y:=fun y hy e=>hn (.inl (e▸hy));exact(dd id hn).trans ((aP (a _ rfl)).trans ((aP (a _ rfl)).trans ((aP (a _ rfl)).trans (dk id (a _ rfl) (a _ rfl) (a _ rfl) (a _ rfl)))))
   have MF:((x:Int).tmod 2==1)=true:=by rw[pQ,show x%2=1 by omega];rfl
   rw[if_neg dL] at Gi Mg;simp only[go_sem,iI,MF,gA,rA];refine abJ (f:=126) (fun o h=>arL o (by simp only[cF];omega) (hnP _) h) as1 hc kr1 f1 fun aZ fH aV=>?_;simp only[go_sem,shI];refine abJ (f:=70) (fun o h=>afS o (by simp only[cF];omega) (hnF _) h) as0 (he.of_eq (aV _ ae)) kr2 f2 fun fG LZ eW=>?_;have hP:grown 6784640128 Db 2 (ow PP.reverse) (.one c) fG:=by rw[ow,List.map_reverse];exact fH.of_eq (eW _ ae)
   have hE:grown 6784640129 3 1 (nP FF.reverse) (.one e) fG:=by rw[nP,List.map_reverse];exact LZ
   have Cp:∀i,i≠6784640128->i≠6784640129->fG i=aj i:=fun i a b=>(eW i b).trans ((aV i a).trans (hb i a b));have bFN:=(Cp 6784128448 ae ae).trans hB.bF;simp only[go_sem,bFN,dK,kF];obtain⟨rP,hxP,Gm⟩:=hP.elems;refine FI (site:=6784896192) (id:=6784896192) (bytes:=16) (by rcases Gm with rfl|rfl<;>simp[kp,kr1]) (hB.gp.of_eq (Cp _ ae ae)) hxP hP.gC (by simp only[cF,qD];omega) fun c2 iE r1 u1 qP jv ky=>?_
   have FA:=(jv 6784128448 ae ae).trans bFN;simp only[go_sem,FA,dK,kF];obtain⟨rE,hxE,Gl⟩:=(hE.of_eq (jv _ ae ae)).elems;refine FI (site:=6784896448) (id:=6784896448) (bytes:=8) (by rcases Gl with rfl|rfl<;>simp[kf,kr2]) (hB.gf.of_eq ((jv _ ae ae).trans (Cp _ ae ae))) hxE hE.gC (by simp only[cF,qD];omega) fun c3 Ae r2 u2 LK zj sN=>?_
   have BR:=(zj 6784128448 ae ae).trans FA;have dk:∀i,i≠6784640128->i≠6784640129->i≠6784896192->i≠6784896448->Ae i=aj i:=fun i a b c d=>(zj i d d).trans ((jv i c c).trans (Cp i a b));have LJ:grown 6784896192 Db 2 (ow f'.places) (.one c2) Ae:=by rw[Gi,Jz];exact qP.of_eq (zj _ ae ae)
   have LN:grown 6784896448 3 1 (nP f'.xB) (.one c3) Ae:=by rw[Mg,Jk];exact LK
   clear qP LK;cases ho:f.outer with
   |true=>
    rw[ho] at BR;simp only[go_sem,BR,h0,dK,gA,kF,s88,FW pt];refine⟨?_,?_⟩
    .rcases Gm with rfl|rfl<;>rcases Gl with rfl|rfl<;>rcases ky with ⟨rfl,rfl⟩|⟨rfl,rfl⟩|⟨rfl,rfl⟩<;>rcases sN with ⟨rfl,rfl⟩|⟨rfl,rfl⟩|⟨rfl,rfl⟩<;>kernel_rfl
    refine ih (k+1) (aT ls x) (gU.set x true) f' _ _ cd c2 c3 ?_ ?_ ?_ ?_ ?_ ?_ ?_ ?_ (by rw[th];exact Ed) (NJ ok AY) cE aa aa En ?_
    .simp only[go_sem,h0]
    .simp only[go_sem,h2]
    .simp only[go_sem,h8]
    .simp only[go_sem,h9]
    .simp only[go_sem,dF]
    .simp only[go_sem,dK]
    .simp only[go_sem]
    .rw[lH];refine⟨?_,?_,?_,?_,?_,?_,?_⟩
     .exact(aP (nSi rfl).symm).trans ((aP (nSi rfl).symm).trans ((aP (nSi rfl).symm).trans ((dk _ (nSi rfl).symm (nSi rfl).symm (nSi rfl).symm (nSi rfl).symm).trans hB.bS)))
     .exact(aP (nBi rfl).symm).trans ((aP (nBi rfl).symm).trans ((aP (nBi rfl).symm).trans ((dk _ (nBi rfl).symm (nBi rfl).symm (nBi rfl).symm (nBi rfl).symm).trans hB.bB)))
     .exact(aP ae).trans ((aP ae).trans ((aP ae).trans ((dk _ ae ae ae ae).trans hB.b8)))
     .rw[sZ,Lz,nk,ho];rfl
     .rw[LW];exact hB.gd.of_eq ((aP ae).trans ((aP ae).trans ((aP ae).trans (dk _ ae ae ae ae))))
     .exact LJ.of_eq ((aP ae).trans ((aP ae).trans (aP ae)))
     exact LN.of_eq ((aP ae).trans ((aP ae).trans (aP ae)))
    intro aD ao vR mV vS q8 yu tG dd;refine hq aD ao vR mV vS (by rw[q8];simp only[go_sem]) (by rw[yu];simp only[go_sem]) tG fun id hn=>?_;have a:∀y,rY y->id≠y:=fun y hy e=>hn (.inl (e▸hy));exact(dd id hn).trans ((aP (a _ rfl)).trans ((aP (a _ rfl)).trans ((aP (a _ rfl)).trans (dk id (a _ rfl) (a _ rfl) (a _ rfl) (a _ rfl)))))
   |false=>
    rw[ho] at BR;simp only[go_sem,BR,h0,dF,dK,gA,kF,w2,Pd,s88,FW pt];refine⟨?_,?_⟩
    .rcases Gm with rfl|rfl<;>rcases Gl with rfl|rfl<;>rcases ky with ⟨rfl,rfl⟩|⟨rfl,rfl⟩|⟨rfl,rfl⟩<;>rcases sN with ⟨rfl,rfl⟩|⟨rfl,rfl⟩|⟨rfl,rfl⟩<;>kernel_rfl
    refine ih (k+1) (aT ls x) (gU.set x true) f' _ _ cd c2 c3 ?_ ?_ ?_ ?_ ?_ ?_ ?_ ?_ (by rw[th];exact Ed) (NJ ok AY) cE aa aa En ?_
    .simp only[go_sem,h0]
    .simp only[go_sem,h2]
    .simp only[go_sem,h8]
    .simp only[go_sem,h9]
    .simp only[go_sem,dF]
    .simp only[go_sem,dK]
    .simp only[go_sem]
    .rw[lH];refine⟨?_,?_,?_,?_,?_,?_,?_⟩
     .exact(aP (nSi rfl).symm).trans ((aP (nSi rfl).symm).trans ((aP (nSi rfl).symm).trans ((dk _ (nSi rfl).symm (nSi rfl).symm (nSi rfl).symm (nSi rfl).symm).trans hB.bS)))
     .exact(aP (nBi rfl).symm).trans ((aP (nBi rfl).symm).trans ((aP (nBi rfl).symm).trans ((dk _ (nBi rfl).symm (nBi rfl).symm (nBi rfl).symm (nBi rfl).symm).trans hB.bB)))
     .exact(aP ae).trans ((aP ae).trans ((aP ae).trans ((dk _ ae ae ae ae).trans hB.b8)))
     .rw[sZ,Lz,nk,ho];rfl
     .rw[LW];exact hB.gd.of_eq ((aP ae).trans ((aP ae).trans ((aP ae).trans (dk _ ae ae ae ae))))
     .exact LJ.of_eq ((aP ae).trans ((aP ae).trans (aP ae)))
     exact LN.of_eq ((aP ae).trans ((aP ae).trans (aP ae)))
    intro aD ao vR mV vS q8 yu tG dd;refine hq aD ao vR mV vS (by rw[q8];simp only[go_sem]) (by rw[yu];simp only[go_sem]) tG fun id hn=>?_;have a:∀y,rY y->id≠y:=fun y hy e=>hn (.inl (e▸hy));exact(dd id hn).trans ((aP (a _ rfl)).trans ((aP (a _ rfl)).trans ((aP (a _ rfl)).trans (dk id (a _ rfl) (a _ rfl) (a _ rfl) (a _ rfl)))))
structure dr (F:Nat) (ls:List Let):Prop where
 ok:eS F ls
 len:ls.length<=400
 cr:ay Let.aC ls<=200
 fing:F<=40
 ne:ls≠[]
 first:∃l,ls[0]?=some l/\l.aA=true
 even:ay Let.aA ls%2=0
 bad:∀l∈ls,dj F l=false
 chk:cN F ls=0
 nw:mh ls=ay Let.aA ls+ay Let.aC ls/2+2
theorem vY{f:Int}(h:cN f ls=0)(aF:ls≠[]):∃F:Nat,f=(F:Int)/\dr F ls:=by
 have h0:=h;unfold cN at h;by_cases h1:400<ls.length\/200<ay Let.aC ls
 .rw[if_pos h1] at h;cases h
 rw[if_neg h1] at h;by_cases h2:f<0\/40<f
 .rw[if_pos h2] at h;cases h
 rw[if_neg h2,if_neg aF] at h;cases hv:uh f ls with
 |false=>rw[hv] at h;simp at h
 |true=>
  obtain⟨F,rfl⟩:=r8 (show 0<=f by omega);refine⟨F,rfl,?_⟩;unfold uh at hv;simp only[cH] at hv;obtain⟨⟨⟨v1,v2⟩,v3⟩,v4⟩:=hv;obtain⟨cU,kz,eV⟩:=M7.1 v3;have nM:∀l∈ls,dj F l=false:=fun l hl=>by simpa using Dt.1 cU l hl
  have hg:qe F ls:=fun l hl hp=>((r4 hp).1 (nM l hl)).1.1.1;obtain⟨g1,g2⟩:=(GQ hg).1 kz;obtain⟨l0,tL⟩:=aK (gV.2 aF);rw[tL] at v1;exact⟨⟨aa,⟨g1,g2⟩,eV,fun l hl=>vQ (nM l hl)⟩,aa,aa,aa,aF,⟨l0,tL,v1⟩,by simpa using v2,nM,h0,by simpa using v4⟩
def aa7(F:Nat)(ls:List Let)(idS gS:Nat)(x:Nat)(gU:List Bool)(aj:aq)(v:V)(ao:aq):Prop:=
 ∃f cd cp cf,f=((fQ (aT ls) (nD ls+1) x gU).1).foldl (Fc.add F ls) (Fc.new ls x)/\v=.agg [.p (.bool f.fZ),cd,cp,cf,.p (.bool f.outer)]/\ao idS=(gS,some (.arr 4 1 (bP ((fQ (aT ls) (nD ls+1) x gU).2.take (2*ls.length)))))/\
  grown 6784512256 3 1 (nP f.dh) (.one cd) ao/\grown 6784896192 Db 2 (ow f.places) (.one cp) ao/\grown 6784896448 3 1 (nP f.xB) (.one cf) ao/\Kept (fun id=>rY id\/id=idS) aj ao
theorem ale{al:Al}{F:Nat}{ls:List Let}(ok:eS F ls)(hF:F<=1000)(okf:∀id,rY id->al.ok id=true){idS gS idB gB x:Nat}(oS:al.ok idS=true)(oB:al.ok idB=true)(nS:¬rY idS)(nB:¬rY idB)(nSB:idS≠idB)(f1:al.fs.contains 126=true)(f2:al.fs.contains 70=true){gU:List Bool}{aj:aq}
  (hx:x<2*ls.length) (Ed:gU.length=nD ls) (bQ:Ku (aT ls) (nD ls) gU) (hs:gU.getD x true=false) (bS:aj idS=(gS,some (.arr 4 1 (bP (gU.take (2*ls.length)))))) (bB:aj idB=(gB,some (.arr 4 1 (bP (BT ls))))):
  ∃v ao,iJ S 106 [.one (.p (mv F ls)),vi x,.one (.hsl idS gS 1 0 (2*ls.length)),.one (.hsl idB gB 1 0 ls.length)] al aj v ao/\aa7 F ls idS gS x gU aj v ao:=by
 have hl:=ok.hl;have iK:(aE ls).length<=ls.length:=yP ls ls.length;have iS:nD ls<=4000000:=by unfold nD;omega
 have k0:al.ok 6784000000=true:=okf _ rfl;have kF:al.ok 6784128448=true:=okf _ rfl;have wq:=wrap_small (n:=x/2) aa;have vk:x/2<ls.length:=aa;have amu:=uq (ai3 vk);have nSi:∀ {a:Nat},rY a->a≠idS:=fun h e=>nS (e▸h);have nBi:∀ {a:Nat},rY a->a≠idB:=fun h e=>nB (e▸h);have nB0:¬(idB=6784000000):=fun e=>nBi rfl e.symm
 have Gp:=NK gU;refine mr c106 (gY rfl) ?_;simp only[go_sem,i106,bB,nB0,k0,kF,oB,iI,jC,wq,vk,amu];refine⟨aH,?_⟩;refine alc ok hF okf (idS:=idS) (gS:=gS) (idB:=idB) (gB:=gB) (g8:=(aj 6784000000).1+1) (gF:=(aj 6784128448).1+1) (d:=x) oS nS nB nSB f1 f2 hx (nD ls+1) 0 x gU (Fc.new ls x) _ _ (.p .nils) (.p .nils) (.p .nils) ?_ ?_ ?_ ?_ ?_ ?_ ?_ ?_ Ed (by unfold nD;omega) (Inv.start bQ hs) aa aa ⟨aX _,bd _,bd _⟩ ?_
 .simp only[go_sem]
 .simp only[go_sem]
 .simp only[go_sem]
 .simp only[go_sem]
 .simp only[go_sem]
 .simp only[go_sem]
 .simp only[go_sem]
 .refine⟨?_,?_,?_,?_,grown.nil,grown.nil,grown.nil⟩
  .simp only[aP (nSi (a:=6784000000) rfl).symm,aP (nSi (a:=6784128448) rfl).symm,bS]
  .simp only[aP (nBi (a:=6784000000) rfl).symm,aP (nBi (a:=6784128448) rfl).symm,bB]
  .simp only[go_sem]
  simp only[go_sem,Fc.new]
 intro aD ao vR mV vS q8 yu tG dd;simp only[go_sem] at q8 yu;have h8:=tG.b8;have hf:=tG.bF;simp only[go_sem,i106_r2,q8,yu,h8,hf,k0,kF];refine⟨_,vR,mV,vS,rfl,rfl,?_,?_,?_,?_,fun id hn=>?_⟩
 .exact(aP (nSi rfl).symm).trans tG.bS
 .exact tG.gd.of_eq (aP ae)
 .exact tG.gp.of_eq (aP ae)
 .exact tG.gf.of_eq (aP ae)
 have a:∀y,rY y->id≠y:=fun y hy e=>hn (.inl (e▸hy));refine(aP (a _ rfl)).trans ((dd id hn).trans ?_);simp only[aP (a 6784000000 rfl),aP (a 6784128448 rfl)]
theorem xD{s1 t1 z1:Nat}{es:List (List PV)}{c:C}{x:PV}{aj:aq}(h:grown s1 t1 z1 es (.one c) aj):iA aj (.tup [.one c,.one (.p x)])=some (.tup [.one (aR t1 z1 es),.one (.p x)]):=by obtain⟨c',o,hc,h2,h3⟩:=h.jc;cases hc;rcases h3 with rfl|rfl<;>simp[iA,rK,tD,my,lM,h2,(show Go.Abs.jc aj (.p x)=some (.p x,[],[]) from rfl),apart,ud,rq,yx]
theorem WK{aj:aq}{id g g0 z o l ty sz:Nat}{es:List (List PV)}(h:aj id=(g0,some (.arr ty sz es))):jd aj (.one (.hsl id g z o l))=[id]:=(De h:jO aj 6 (.hsl id g z o l)=[id])
theorem asX:(S.sites 106).contains 106=true:=ah
theorem asY:(S.sites 106).contains 126=true:=ah
theorem asZ:(S.sites 106).contains 70=true:=ah
theorem agU{S:List Bool}{n k:Nat}{b:Bool}(hk:k<n)(hn:n<=S.length)(h:S.getD k true=b):(S.take n)[k]?=some b:=by rw[jt,if_pos hk];rw[de] at h;obtain⟨c,hc⟩:=aK (show k<S.length by omega);rw[hc] at h ⊢;exact congrArg some h
theorem alh(g:dr F ls):aI S 91 [eY F ls] (.tup [.one (aR Ai 5 (tB (eI F ls))),.one (.p (.int .i64 0))]):=by
 have ok:=g.ok;have hl:=ok.hl;have hF:F<=1000:=by have:=g.fing;omega
 have iK:(aE ls).length<=ls.length:=yP ls ls.length;have hlen:=g.len;have iS:nD ls<=4000000:=by unfold nD;omega
 have h2n:2*ls.length<=nD ls:=by unfold nD;omega
 have pr:=Nw F ls hl;rw[JH g.chk,if_neg g.ne,uK] at pr;have pb:=ai5 ok;have hm:=maps ok;have m2:=yF (a:=ls.length) aa;have qt:2*ls.length<=140737488355328:=aa;have ve:List.replicate (2*ls.length) [PV.bool false]=bP ((dR (aT ls) (nD ls) 0).2.take (2*ls.length)):=by show _=bP ((List.replicate (nD ls) false).take (2*ls.length));rw[List.take_replicate,xe h2n];simp
 have hLB:∀aj:aq,land aj [] 5824384064 ((RV.one (.own 4 1 (bP (BT ls)))).ig (S.lone 5824384064))=some (.one (.hsl 5824384064 ((aj 5824384064).1+1) 1 0 ls.length),[(5824384064,((aj 5824384064).1+1,some (.arr 4 1 (bP (BT ls)))))]):=by intro aj;rw[show S.lone 5824384064=false by kernel_rfl];show some (V.one (.hsl 5824384064 ((aj 5824384064).1+1) 1 0 (bP (BT ls)).length),_)=_;rw[show(bP (BT ls)).length=ls.length by simp[ur]];rfl
 have iw:S.shared 106=true:=ah;refine aY c91 ?_;simp only[go_sem,i91,s21,cX pr ia,s105,cX pb (hLB _),m2,qt,ve];refine cV (fun k ak aj=>ak 4=.one (.p (mv F ls))/\ak 7=.one (.hsl 5824320448 1 1 0 (2*ls.length))/\ak 8=.one (.hsl 5824384064 1 1 0 ls.length)/\ak 29=vi ((2*ls.length:Nat):Int)/\ak 30=vi k/\
   aj 5824320448=(1,some (.arr 4 1 (bP ((dR (aT ls) (nD ls) k).2.take (2*ls.length)))))/\aj 5824384064=(1,some (.arr 4 1 (bP (BT ls))))/\
   ∃vo,ak 6=.one vo/\grown 5824704448 Ai 5 (tB ((dR (aT ls) (nD ls) k).1.map (mY F ls))) (.one vo) aj) 0 (2*ls.length) (bd _) ?_ ?_
 .simp only[go_sem];first|exact⟨rfl,rfl,rfl,_,rfl,.inl ⟨rfl,rfl⟩⟩|exact⟨rfl,rfl,_,rfl,.inl ⟨rfl,rfl⟩⟩|exact⟨rfl,_,rfl,.inl ⟨rfl,rfl⟩⟩|exact⟨rfl,rfl,rfl,rfl,_,rfl,.inl ⟨rfl,rfl⟩⟩
 rintro k ak aj hk ⟨h4,h7,h8,h29,Iv,bS,bB,vo,h6,go⟩
 by_cases aw:k<2*ls.length
 .have aL:((k:Int)<((2*ls.length:Nat):Int)):=aa;have w1:=cK (n:=k) aa;obtain⟨bQ,_⟩:=Ri hm k aa;have Vr:=Kg (aT ls) (nD ls) k;have MC:=Xv (aT ls) (nD ls) k;have cE:=Bv (aT ls) (nD ls) k;generalize hw:dR (aT ls) (nD ls) k=st at*;obtain⟨o,gU⟩:=st;simp only at bQ Vr MC bS go;unfold yD at cE;cases hs:gU.getD k true with
  |true=>simp only[hs,if_true] at cE;have hb:=uq (agU aw aa hs);simp only[go_sem,i91_l1,h4,h6,h7,h8,h29,Iv,bS,bB,aw,aL,hb,w1,cE];exact⟨vo,rfl,go⟩
  |false=>
   simp only[hs,dx,if_false,Vr] at cE;have hb:=uq (agU aw aa hs);obtain⟨t,ht⟩:=ahc (aT ls) (k:=nD ls) hs;have zx:((fQ (aT ls) (nD ls+1) k gU).1).foldl (Fc.add F ls) (Fc.new ls k)=mY F ls (fQ (aT ls) (nD ls+1) k gU).1:=by unfold mY;rw[ht];rfl
   have fy:=ald (F:=F) (t:=t) aw;rw[<- ht] at fy;simp only[go_sem,i91_l1,h4,h6,h7,h8,h29,Iv,bS,bB,aw,aL,hb,iw];have acB:jd aj (.one (.hsl 5824320448 1 1 0 (2*ls.length)))=[5824320448]:=WK bS;have MK:jd aj (.one (.hsl 5824384064 1 1 0 ls.length))=[5824384064]:=WK bB;refine rM (P:=aa7 F ls 5824320448 1 k gU aj) zH (ale ok hF (fun id h=>uQ (by rw[h];exact asX)) (sB ?_) (sB ?_) ae ae ae ?_ ?_ aw Vr bQ hs bS bB) ?_
   .simp only[dG,lR,acB,MK];simp
   .simp only[dG,lR,acB,MK];simp
   .exact asY
   .exact asZ
   rintro v bG ⟨f,cd,cp,cf,hf,rfl,bS1,gd,gp,gf,dd⟩
   rw[zx] at hf;rw[<- hf] at fy;have KF:=(dd 5824384064 ae).trans bB;have go1:=go.of_eq (dd 5824704448 ae);have nk:tB (o.map (mY F ls))++[f.ps]=tB ((dR (aT ls) (nD ls) (k+1)).1.map (mY F ls)):=by rw[cE,hf];simp
   have hS2:(dR (aT ls) (nD ls) (k+1)).2=(fQ (aT ls) (nD ls+1) k gU).2:=by rw[cE]
   have anm:(tB (o.map (mY F ls))).length<=k:=by simpa using MC
   generalize tB (o.map (mY F ls))=outs at go1 nk anm;have gd0:=gd;rcases gd with ⟨e,_⟩|⟨_,gg,e,hbd⟩
   .simp at e;exact absurd e fy
   cases e;simp only[go_sem];rw[cF] at gd0;obtain⟨fr,hx,Av,Ga⟩:=akE (aj:=dB bG 5824704384 ((bG 5824704384).1+1,some (.iQ Ai 5 [[.p (.bool f.fZ),.hsl 6784512256 gg 1 0 f.dh.length,cp,cf,.p (.bool f.outer)]]))) (s:=5824704384) sZ (gd0.of_eq (aP ae)) (gp.of_eq (aP ae)) (gf.of_eq (aP ae));have nf:∀i,i≠6784512256->i≠6784896192->i≠6784896448->i∉fr:=fun i a b c h=>by
    rcases Ga i h with h|h|h
    .exact a h
    .exact b h
    exact c h
   refine alS (site:=5824704448) (id:=5824704448) (bytes:=88) (go1.of_eq (aP ae)) hx Av (nf _ ae ae ae) (nf _ ae ae ae) (.inl rfl) (by simp only[cq,dN];omega) fun c aZ hc aV=>?_;have BS':=(aV 5824320448 ae ae (nf _ ae ae ae)).trans ((aP ae).trans bS1);have BB':=(aV 5824384064 ae ae (nf _ ae ae ae)).trans ((aP ae).trans KF);simp only[go_sem,h4,h6,h7,h8,h29,Iv,BS',BB',w1,aw,hS2];refine⟨c,rfl,?_⟩;rw[<- nk];exact hc
 have:k=2*ls.length:=aa;subst this;simp only[go_sem,i91_l1,i91_r2,h6,h29,Iv,eK];have:=Xu hm (nD ls) h2n (aX _);unfold eI js;rw[this];exact xD go
structure Pc where
 l:Let
 d:Bool
def Pc.ps(p:Pc):List PV:=[.int .i64 p.l.kind,.int .i64 p.l.gate,.int .i64 p.l.aB,.int .i64 p.l.id,.int .i64 p.l.sign,.bool p.l.over,.bool p.d]
abbrev dJ(o:List Pc):List (List PV):=o.map Pc.ps
abbrev ml:Nat:=152
def j9:Let:=⟨0,0,0,0,0,false⟩
def pieces(ls:List Let):List Pc:=(List.range ls.length).map fun i=>⟨ls.getD i j9,im ls i⟩
theorem fi(ls:List Let):(pieces ls).length=ls.length:=by simp[pieces]
theorem pL{i:Nat}{l:Let}(h:ls[i]?=some l):(pieces ls)[i]?=some ⟨l,im ls i⟩:=by have:=(aS.1 h).1;simp only[pieces,fR,te this,jZ,de,h,mS]
theorem jN{o:List Pc}{k:Nat}{p:Pc}(h:o[k]?=some p):(dJ o)[k]?=some p.ps:=by simp[h]
def oD(L:List Nat)(ds:List Nat)(v:Nat):List Nat:=ds.foldl (fun L d=>L.set d v) L
def qx:List Fc->Nat->List Nat->List Nat
 |[],_,L=>L
 |f::r,j,L=>qx r (j+1) (oD L f.dh j)
def nX(F:Nat)(ls:List Let):List Nat:=qx (eI F ls) 0 (List.replicate (2*ls.length) 0)
theorem NA(L ds:List Nat)(v:Nat):(oD L ds v).length=L.length:=by
 induction ds generalizing L with
 |nil=>rfl
 |cons d ds ih=>show(oD (L.set d v) ds v).length=_;rw[ih];simp
theorem ar7(L a b:List Nat)(v:Nat):oD L (a++b) v=oD (oD L a v) b v:=by simp[oD]
theorem PW(fs:List Fc):∀(j:Nat) (L:List Nat),(qx fs j L).length=L.length:=by
 induction fs with
 |nil=>intro j L;rfl
 |cons f r ih=>intro j L;show(qx r (j+1) _).length=_;rw[ih,NA]
theorem aoA(a:List Fc)(f:Fc):∀(j:Nat) (L:List Nat),qx (a++[f]) j L=oD (qx a j L) f.dh (j+a.length):=by
 induction a with
 |nil=>intro j L;rfl
 |cons g r ih=>intro j L;show qx (r++[f]) (j+1) _=_;rw[ih];simp[qx];congr 1;omega
theorem ah1(F:Nat)(ls:List Let):∀(w:List Nat) (f:Fc),(w.foldl (Fc.add F ls) f).dh=f.dh++w.filter (fun x=>decide (x<2*ls.length)):=by
 intro w
 induction w with
 |nil=>intro f;simp
 |cons x w ih=>
  intro f;rw[zZ,ih];unfold Fc.add;by_cases h:x<2*ls.length
  .rw[if_pos h,List.filter_cons_of_pos (by simpa using h)];simp
  rw[if_neg h,List.filter_cons_of_neg (by simpa using h)]
theorem Ih(F:Nat)(ls:List Let)(w:List Nat):(mY F ls w).dh=w.filter (fun x=>decide (x<2*ls.length)):=by unfold mY;rw[ah1];rfl
theorem UN{f:Fc}(h:f∈eI F ls):∀d∈f.dh,d<2*ls.length:=by
 obtain⟨w,_,rfl⟩:=dq.1 h;intro d hd;rw[Ih] at hd
 simpa using (uM.1 hd).2
theorem UO(ok:eS F ls){f:Fc}(h:f∈eI F ls):f.dh.length<=nD ls:=by obtain⟨w,hw,rfl⟩:=dq.1 h;rw[Ih];exact ll (List.length_filter_le _ _) (NN ok w hw).2.1
theorem aa6(F:Nat)(ls:List Let):(eI F ls).length=mh ls:=by simp[eI,mh]
theorem UP{o:List Fc}{k:Nat}{p:Fc}(h:o[k]?=some p):(tB o)[k]?=some p.ps:=by simp[h]
abbrev eB(F:Nat)(ls:List Let):PV:=.box [.int .i64 F,.sl (dJ (pieces ls)),.sl (tB (eI F ls)),.sl (nP (nX F ls)),.int .i64 (ay Let.aA ls:Nat),.int .i64 ((ay Let.aC ls/2:Nat):Int),.sl (nP (counts ls F))]
abbrev KJ(F:Nat)(ls:List Let)(pc cf:C):List C:=[.p (.int .i64 F),pc,cf,.hsl 4736256448 1 1 0 (2*ls.length),.p (.int .i64 (ay Let.aA ls:Nat)),.p (.int .i64 ((ay Let.aC ls/2:Nat):Int)),.hsl 4736256960 1 1 0 (F+1)]
theorem apV{F:Nat}{ls:List Let}(g:dr F ls){pc cf:C}{ak:Env}{aj:aq}{Q:dy}(h4:ak 4=.one cf)(h6:ak 6=.one (.bk 4736257088 1 0))
  (bB:aj 4736257088=(1,some (.var (KJ F ls pc cf)))) (bL:aj 4736256448=(1,some (.arr 3 1 (nP (List.replicate (2*ls.length) 0))))) (bC:aj 4736256960=(1,some (.arr 3 1 (nP (counts ls F))))) (gp:grown 4736896448 ml 7 (dJ (pieces ls)) (.one pc) aj) (gf:grown 4736064064 Ai 5 (tB (eI F ls)) (.one cf) aj)
  (hq:∀aD ao,aD 6=ak 6->ao 4736257088=(1,some (.var (KJ F ls pc cf)))->ao 4736256448=(1,some (.arr 3 1 (nP (nX F ls))))->ao 4736256960=(1,some (.arr 3 1 (nP (counts ls F))))->grown 4736896448 ml 7 (dJ (pieces ls)) (.one pc) ao->grown 4736064064 Ai 5 (tB (eI F ls)) (.one cf) ao->W S .all i74_r5 Q aD ao):
  W S .all i74_r6 Q ak aj:=by
 have ok:=g.ok;have hl:=ok.hl;have hlen:=g.len;have iK:(aE ls).length<=ls.length:=yP ls ls.length;have iS:nD ls<=4000000:=by unfold nD;omega
 have rR:(eI F ls).length<=nD ls:=by rw[eI,cF];exact Xv (aT ls) (nD ls) _
 obtain⟨g0,Vf⟩:∃gg,cf=.hsl 4736064064 gg 5 0 (eI F ls).length:=by
  rcases gf with ⟨e,_⟩|⟨_,gg,e,hb⟩
  .have h1:(eI F ls).length=0:=by simpa using congrArg List.length e
   rw[aa6,g.nw] at h1;omega
  cases e;exact⟨gg,by rw[cF]⟩
 have Iw:=h4;rw[Vf] at Iw;simp only[go_sem,i74_r6,Iw];refine cV (fun k aD ao=>aD 6=ak 6/\aD 78=.one cf/\aD 79=vi (eI F ls).length/\aD 80=vi k/\ao 4736257088=(1,some (.var (KJ F ls pc cf)))/\ao 4736256448=(1,some (.arr 3 1 (nP (qx ((eI F ls).take k) 0 (List.replicate (2*ls.length) 0)))))/\ao 4736256960=(1,some (.arr 3 1 (nP (counts ls F))))/\
   grown 4736896448 ml 7 (dJ (pieces ls)) (.one pc) ao/\grown 4736064064 Ai 5 (tB (eI F ls)) (.one cf) ao) 0 (eI F ls).length (bd _) ?_ ?_
 .simp only[go_sem,bB,bL,bC,qx,Vf];exact⟨rfl,gp,by first|exact gf|(rw[<- Vf];exact gf)⟩
 rintro k aD ao hk ⟨q6,h78,h79,h80,bB,bL,bC,gp,gf⟩
 rw[h6] at q6;by_cases aw:k<(eI F ls).length
 .have aL:((k:Int)<((eI F ls).length:Int)):=aa;obtain⟨f,hf⟩:=aK aw;have Gb:=UP hf;have oZ:=aU hf;have hdl:=UO ok oZ;have hdd:=UN oZ;have w1:=cK (n:=k) aa;have lH:qx ((eI F ls).take (k+1)) 0 (List.replicate (2*ls.length) 0)=oD (qx ((eI F ls).take k) 0 (List.replicate (2*ls.length) 0)) f.dh k:=by
   rw[kn,hf];show qx (_++[f]) 0 _=_;rw[aoA,eQ,xe aa,iD]
  have hLl:(qx ((eI F ls).take k) 0 (List.replicate (2*ls.length) 0)).length=2*ls.length:=by rw[PW,List.length_replicate]
  generalize qx ((eI F ls).take k) 0 (List.replicate (2*ls.length) 0)=L at bL lH hLl;obtain⟨gg,uY,bf⟩:∃gg,cf=.hsl 4736064064 gg 5 0 (tB (eI F ls)).length/\ao 4736064064=(gg,some (.arr Ai 5 (tB (eI F ls)))):=by
   rcases gf with ⟨e,_⟩|⟨_,gg,e,hb⟩
   .have:(eI F ls).length=0:=by simpa using congrArg List.length e
    omega
   cases e;exact⟨gg,rfl,hb⟩
  rw[cF] at uY;have Vb:=h78;rw[uY] at Vb;simp only[go_sem,i74_l4,Vb,h79,h80,bf,Gb,Fc.ps,aw,aL];refine cV (fun j cZ aZ=>cZ 6=.one (.bk 4736257088 1 0)/\cZ 11=vi k/\cZ 78=.one cf/\cZ 79=vi (eI F ls).length/\cZ 80=vi k/\cZ 86=.one (.p (.sl (nP f.dh)))/\cZ 87=vi f.dh.length/\cZ 88=vi j/\
   aZ 4736257088=(1,some (.var (KJ F ls pc cf)))/\aZ 4736256448=(1,some (.arr 3 1 (nP (oD L (f.dh.take j) k))))/\aZ 4736256960=(1,some (.arr 3 1 (nP (counts ls F))))/\grown 4736896448 ml 7 (dJ (pieces ls)) (.one pc) aZ/\grown 4736064064 Ai 5 (tB (eI F ls)) (.one cf) aZ) 0 f.dh.length (bd _) ?_ ?_
  .simp only[go_sem,q6,uY,Vb,h79,h80,bB,bL,bC,oD,List.foldl_nil];refine⟨rfl,gp.of_eq (aP ae),?_⟩;first|exact gf.of_eq (aP ae)|(rw[<- uY];exact gf.of_eq (aP ae))
  rintro j cZ aZ hj ⟨p6,p11,p78,p79,p80,p86,p87,p88,cB,cL,cC,cp,cg⟩
  by_cases sJ:j<f.dh.length
  .have Gh:((j:Int)<(f.dh.length:Int)):=aa;obtain⟨d,hd⟩:=aK sJ;have kM:=kQ hd;have hdb:=hdd d (aU hd);have w2:=cK (n:=j) aa;have iH:(oD L (f.dh.take j) k).set d k=oD L (f.dh.take (j+1)) k:=by rw[kn,hd,ar7];rfl
   have eh:=Jl (oD L (f.dh.take j) k) d k;rw[iH] at eh;obtain⟨v0,hv0⟩:=aK (ls:=oD L (f.dh.take j) k) (k:=d) (by rw[NA,hLl];exact hdb);have hv:=kQ hv0;simp only[go_sem,i74_l2,p6,p11,p78,p79,p80,p86,p87,p88,cB,cL,cC,sJ,Gh,kM,hdb,hv,eh,w2];exact⟨cp.of_eq (aP ae),cg.of_eq (aP ae)⟩
  have:j=f.dh.length:=aa;subst this;rw[jh,<- lH] at cL;simp only[go_sem,i74_l2,i74_r3,p6,p78,p79,p80,p87,p88,cB,cL,cC,eK,w1,aw,h6];exact⟨cp,cg⟩
 have:k=(eI F ls).length:=aa;subst this;rw[jh] at bL;simp only[go_sem,i74_l4,h79,h80,eK];exact hq _ _ (by simp only[go_sem,q6,h6]) bB bL bC gp gf
theorem ae6(g:dr F ls):aI S 74 [eY F ls] (vu (eB F ls) (.int .i64 0)):=by
 have ok:=g.ok;have hl:=ok.hl;have hlen:=g.len;have zu:=g.fing;have pf:=alh g;have pps:=Wv F ls hl;have pcs:=Zv F ls hl;have lo:S.lone 4736064064=false:=ah;have m2:=yF (a:=ls.length) aa;have wF:=cK (n:=F) aa;have r1:2*ls.length*8<=140737488355328:=aa;have r2:(F+1)*8<=140737488355328:=aa;have e1:List.replicate (2*ls.length) [PV.int .i64 0]=nP (List.replicate (2*ls.length) 0):=af;have e2:List.replicate (F+1) [PV.int .i64 0]=nP (rH ls F 0):=by rw[SM];simp
 refine aY c74 ?_;simp only[go_sem,i74,s91];refine abF pf lo fun cf kI uY mA=>?_;have KD:=mA 4736000000 ae;simp only[go_sem] at KD;simp only[go_sem,KD,m2,wF,r1,r2,s87,s92,rI pps,rI pcs,e1,e2];refine⟨aH,?_⟩;have hz:∀j,j≠4736064064->j≠4736000000->kI j=(0,none):=fun j a b=>(mA j a).trans (aP b);have z1:=hz 4736256448 ae ae;have z2:=hz 4736256960 ae ae;have z3:=hz 4736257088 ae ae;refine cV (fun k ak aj=>ak 4=.one cf/\ak 6=.one (.bk 4736257088 1 0)/\ak 7=vb (dn ls k)/\ak 42=.one (.p (cP ls))/\ak 43=vi ls.length/\ak 44=vi k/\
   aj 4736256448=(1,some (.arr 3 1 (nP (List.replicate (2*ls.length) 0))))/\aj 4736256960=(1,some (.arr 3 1 (nP (rH ls F k))))/\
   ∃pc,aj 4736257088=(1,some (.var (KJ F ls pc cf)))/\grown 4736896448 ml 7 (dJ ((pieces ls).take k)) (.one pc) aj/\grown 4736064064 Ai 5 (tB (eI F ls)) (.one cf) aj) 0 ls.length (bd _) ?_ ?_
 .simp only[go_sem,z1,z2,z3];refine⟨rfl,rfl,.p .nils,rfl,.inl ⟨rfl,rfl⟩,uY.of_eq ?_⟩;simp only[go_sem]
 rintro k ak aj hk ⟨h4,h6,h7,tF,Ls,Lt,bL,bC,pc,bB,gp,gf⟩
 by_cases aw:k<ls.length
 .obtain⟨l,dV⟩:=aK aw;have hi:=mL dV;have aL:((k:Int)<(ls.length:Int)):=aa;have w1:=cK (n:=k) aa;have wG:=pL dV;cases hp:(l.kind==1) with
  |false=>
   have gO:l.aA=false:=hp;have kM:im ls k=false:=by simp[im,dV,gO]
   rw[kM] at wG;have hd:=KW dV gO;have xM:=Zr (F:=F) dV gO;have lH:dJ ((pieces ls).take (k+1))=dJ ((pieces ls).take k)++[(Pc.mk l false).ps]:=by rw[kn,wG];simp
   simp only[go_sem,i74_l1,h6,tF,Ls,Lt,hi,Let.ps,aL,hp,bB];refine xz (site:=4736896448) (id:=4736896448) (bytes:=56) (xs:=[(Pc.mk l false).ps]) (rd:=[4736896384]) (gp.of_eq (by simp only[aM,Nat.reduceEqDiff,if_false])) (by simp[ez,aM,Pc.ps]) (.inl rfl) (by simp only[cF,cq,dN,eQ,fi];omega) fun c bG r u hc hb hr=>?_;have kN:∀i,i≠4736896448->i≠4736896384->i≠4736576128->i≠4736512128->i≠4736256960->bG i=aj i:=fun i a b c d e=>(hb i a a).trans (by simp only[aM,if_neg b,if_neg c,if_neg d])
   have LS:=(hb 4736256960 ae ae);simp only[aM,Nat.reduceEqDiff,if_false,bC] at LS;have KF:=(kN 4736257088 ae ae ae ae ae).trans bB;have bL1:=(kN 4736256448 ae ae ae ae ae).trans bL;simp only[go_sem,h4,h6,h7,tF,Ls,Lt,KF,bL1,LS,w1,hd,xM,aw];refine⟨?_,?_⟩
   .rcases hr with ⟨rfl,rfl⟩|⟨rfl,rfl⟩|⟨rfl,rfl⟩<;>kernel_rfl
   refine⟨c,rfl,?_,?_⟩
   .rw[lH];exact hc.of_eq (aP ae)
   exact gf.of_eq ((aP ae).trans (kN _ ae ae ae ae ae))
  |true=>
   have gO:l.aA=true:=hp;have kM:im ls k=dn ls k:=by simp[im,dV,gO]
   rw[kM] at wG;have hd:=KV dV gO;have lH:dJ ((pieces ls).take (k+1))=dJ ((pieces ls).take k)++[(Pc.mk l (dn ls k)).ps]:=by rw[kn,wG];simp
   have wx:=ok.ax.eU l (aU dV) gO;obtain⟨G,hG⟩:=r8 wx.g0;have Iy:G<=F:=by have:=wx.g1;omega
   have F2:G<F+1:=aa;have wv:=kQ (Zp (ls:=ls) (k:=k) Iy);have bQ:cg (ls.take k) G<=k:=Oo _ _ _;have w2:=cK (n:=cg (ls.take k) G) aa;have s1:=Jl (rH ls F k) G (cg (ls.take k) G+1);rw[<- Zq dV gO hG] at s1;simp only[go_sem,i74_l1,h6,h7,tF,Ls,Lt,hi,Let.ps,aL,hp,hG,bB,bC,wv,F2,w2,s1];refine⟨aH,?_⟩;refine xz (site:=4736896448) (id:=4736896448) (bytes:=56) (xs:=[(Pc.mk l (dn ls k)).ps]) (rd:=[4736896384]) (gp.of_eq (by simp only[aM,Nat.reduceEqDiff,if_false])) (by simp[ez,aM,Pc.ps,hG]) (.inl rfl) (by simp only[cF,cq,dN,eQ,fi];omega) fun c bG r u hc hb hr=>?_
   have kN:∀i,i≠4736896448->i≠4736896384->i≠4736576128->i≠4736512128->i≠4736256960->bG i=aj i:=fun i a b c d e=>(hb i a a).trans (by simp only[aM,if_neg b,if_neg c,if_neg d,if_neg e]);have LS:=(hb 4736256960 ae ae);simp only[aM,Nat.reduceEqDiff,if_false,if_true,bC] at LS;have KF:=(kN 4736257088 ae ae ae ae ae).trans bB;have bL1:=(kN 4736256448 ae ae ae ae ae).trans bL;simp only[go_sem,h4,h6,h7,tF,Ls,Lt,KF,bL1,LS,w1,hd,aw];refine⟨?_,?_⟩
   .rcases hr with ⟨rfl,rfl⟩|⟨rfl,rfl⟩|⟨rfl,rfl⟩<;>kernel_rfl
   refine⟨c,rfl,?_,?_⟩
   .rw[lH];exact hc.of_eq (aP ae)
   exact gf.of_eq ((aP ae).trans (kN _ ae ae ae ae ae))
 have:k=ls.length:=aa;subst this;rw[fS (by rw[fi];exact aX _)] at gp;rw[SL] at bC;simp only[go_sem,i74_l1,Ls,Lt,eK];refine apV g (pc:=pc) (cf:=cf) ?_ ?_ bB bL bC gp gf ?_
 .simp only[go_sem,h4]
 .simp only[go_sem,h6]
 intro aD ao q6 cB cL cC gp' gf';simp only[go_sem,h6] at q6;obtain⟨rp,np,_⟩:=gp'.W4 (n:=4);obtain⟨rf,nf,_⟩:=gf'.W4 (n:=4);have t1:List.take (2*ls.length) (nP (nX F ls))=nP (nX F ls):=fS (by simp[nX,PW]);have t2:List.take (F+1) (nP (counts ls F))=nP (counts ls F):=fS (by simp[counts]);have n1:2*ls.length<=(nX F ls).length:=by simp[nX,PW]
 have n2:F+1<=(counts ls F).length:=by simp[counts]
 simp only[go_sem,i74_r5,q6];simp only[go_sem,iA,rK,tD,my,lM,jc,cB,cL,cC,np,nf,t1,t2,n1,n2];rfl
theorem vC{x:Int}(h1: -9223372036854775808<=x)(h2:x<=9223372036854775807):IntKind.i64.wrap x=x:=by
 have e:(2 ^ IntKind.i64.bits:Int)=18446744073709551616:=ae;have e2:(2 ^ (IntKind.i64.bits-1):Int)=9223372036854775808:=ae;unfold IntKind.wrap;simp only[e,e2];by_cases h:0<=x
 .have h3:x%18446744073709551616=x:=aa;rw[h3];have h4:¬x≥9223372036854775808:=aa;simp[h4]
 have h3:x%18446744073709551616=x+18446744073709551616:=aa;rw[h3];have h4:x+18446744073709551616≥9223372036854775808:=aa;have h5:IntKind.i64.signed=true:=rfl;simp[h4,h5]
theorem atP(l:List Pc):gC 7 (dJ l)=true:=by simp[gC,Pc.ps]
theorem Dg(l:List Pc):((dJ l).all fun e=>e.all PV.scalar)=true:=by simp[Pc.ps,PV.scalar]
abbrev EF(l x:List Pc)(k:Nat):List Pc:=l.take (k+1)++x++l.drop (k+1)
theorem afl(a b:List Pc):dJ (a++b)=dJ a++dJ b:=af
theorem ajE(p:Pc)(t:List Pc)(hl:(p::t).length<=1000000):aI S 132 [.one (.p (.sl (dJ (p::t))))] (.one (aR ml 7 (dJ (p::t)))):=by
 have hs:=atP (p::t);have hr:(0+(dJ (p::t)).length)*56<=room:=by unfold room;rw[cF];omega
 refine aY c132 ?_;obtain⟨e0,es,hq⟩:∃e0 es,dJ (p::t)=e0::es:=⟨_,_,rfl⟩;rw[hq] at hs hr ⊢;have aF:e0::es≠[]:=af;have qj:aR ml 7 (e0::es)=.own ml 7 (e0::es):=if_neg aF;rw[qj];unfold room at hr;simp only[iD,cq] at hr;simp only[gC,lk] at hs;simp only[go_sem,i132,fj,gC];simp only[hs,hr,not_true_eq_false,if_true,if_false];simp only[go_sem];exact Nl sZ rfl
def rA(g ab b:Int)(p:Pc):Pc:=if (p.l.kind==1)&&((p.l.gate==g)&&decide (ab<p.l.aB)) then {p with l:={p.l with aB:=p.l.aB+b}} else p
abbrev jP(l:List Pc)(g ab b:Int):List Pc:=l.map (rA g ab b)
def agj(id:Nat)(es:List (List PV))(c:C)(aj:aq)(v:V)(ao:aq):Prop:=v=.tup []/\grown id ml 7 es (.one c) ao/\Kept (· =id) aj ao
theorem asg{al:Al}{aj:aq}{id:Nat}{l:List Pc}{c:C}{g ab b:Int}(o:l=[]\/al.ok id=true)(hl:l.length<=1000000)(hb: -100<=b/\b<=100)(hr:∀p∈l,-1000000<=p.l.aB/\p.l.aB<=1000000)(h:grown id ml 7 (dJ l) (.one c) aj):
  ∃v ao,iJ S 130 [.one c,vi g,vi ab,vi b] al aj v ao/\agj id (dJ (jP l g ab b)) c aj v ao:=by
 refine mr c130 (gY rfl) ?_;rcases h with ⟨h1,h2⟩|⟨aF,gg,h2,hC⟩
 .cases h2;have hln:l=[]:=by simpa using h1
  subst hln;have hz:¬(((0:Nat):Int)<((0:Nat):Int)):=aa;simp only[go_sem,i130];refine cV (fun k ak ao=>k=0/\ak 10=vi ((0:Nat):Int)/\ak 11=vi ((0:Nat):Int)/\ao=aj) 0 0 (aX _) ?_ ?_
  .simp only[go_sem];exact rfl
  rintro k ak ao _ ⟨rfl,dF,dK,rfl⟩
  simp only[go_sem,i130_l1,dF,dK,hz];exact⟨rfl,.inl ⟨rfl,rfl⟩,fun _ _=>rfl⟩
 cases h2;have o:=o.resolve_left (by simpa using aF);simp only[go_sem,i130];refine cV (fun k ak ao=>ak 0=.one (.hsl id gg 7 0 l.length)/\ak 1=vi g/\ak 2=vi ab/\ak 3=vi b/\ak 10=vi l.length/\ak 11=vi k/\ao id=(gg,some (.arr ml 7 (dJ ((jP (l.take k) g ab b)++l.drop k))))/\Kept (· =id) aj ao) 0 l.length (bd _) ?_ ?_
 .simp only[go_sem,hC];refine⟨?_,?_⟩
  .simp[]
  exact Kept.refl _ _
 rintro k ak ao hk ⟨h0,h1,h2,h3,dF,dK,hF,dd⟩
 by_cases aw:k<l.length
 .have aL:((k:Int)<(l.length:Int)):=aa;obtain⟨p,hp⟩:=aK aw;have w1:=cK (n:=k) aa;obtain⟨r1,r2⟩:=hr p (aU hp);have wr:=vC (x:=p.l.aB+b) aa aa;have zq:l.drop k=p::l.drop (k+1):=by
   obtain⟨hh,rfl⟩:=aS.1 hp;exact zY hh
  have hlen:((jP (l.take k) g ab b)++l.drop k).length=l.length:=by simp[jP];omega
  have hJ:((jP (l.take k) g ab b)++l.drop k)[k]?=some p:=by
   rw[mQ (by simp[jP];omega)];have:k-(jP (l.take k) g ab b).length=0:=by simp[jP];omega
   rw[this,zq];rfl
  have iH:((jP (l.take k) g ab b)++l.drop k).set k (rA g ab b p)=(jP (l.take (k+1)) g ab b)++l.drop (k+1):=by
   have e1:(jP (l.take k) g ab b).length=k:=by simp[jP];omega
   rw[List.set_append_right _ _ aa,e1,Fm,zq,List.set_cons_zero,kn,hp];simp[jP]
  have fJ:=jN hJ;have Er:dJ (((jP (l.take k) g ab b)++l.drop k).set k (rA g ab b p))=(dJ ((jP (l.take k) g ab b)++l.drop k)).set k (rA g ab b p).ps:=by simp[dJ,List.map_set]
  rw[iH] at Er;have AU:rA g ab b p=p->dJ ((jP (l.take k) g ab b)++l.drop k)=dJ ((jP (l.take (k+1)) g ab b)++l.drop (k+1)):=fun e=>by rw[Er,e];obtain⟨hh,he⟩:=aS.1 fJ;rw[<- he,List.set_getElem_self]
  generalize (jP (l.take k) g ab b)++l.drop k=m at hF hJ fJ Er AU hlen;have ni:k<(dJ m).length:=by rw[cF];omega
  cases c1:(p.l.kind==1) with
  |false=>have e:=AU (by unfold rA;rw[c1];rfl);simp only[go_sem,i130_l1,h0,h1,h2,h3,dF,dK,hF,fJ,Pc.ps,aw,aL,c1,w1,o];exact⟨by rw[e],dd⟩
  |true=>
   cases c2:(p.l.gate==g) with
   |false=>have e:=AU (by unfold rA;rw[c1,c2];rfl);simp only[go_sem,i130_l1,h0,h1,h2,h3,dF,dK,hF,fJ,Pc.ps,aw,aL,c1,c2,w1,o];exact⟨by rw[e],dd⟩
   |true=>
    by_cases c3:ab<p.l.aB
    .have e:(rA g ab b p).ps=[.int .i64 p.l.kind,.int .i64 p.l.gate,.int .i64 (p.l.aB+b),.int .i64 p.l.id,.int .i64 p.l.sign,.bool p.l.over,.bool p.d]:=by unfold rA;rw[c1,c2,decide_eq_true c3];rfl
     rw[e] at Er;simp only[go_sem,i130_l1,h0,h1,h2,h3,dF,dK,hF,fJ,Pc.ps,aw,aL,c1,c2,c3,w1,wr,o];refine⟨?_,?_⟩
     .first|rw[Er]|(rw[Er];rfl)
     exact dd.dB rfl _
    have e:=AU (by unfold rA;rw[c1,c2,decide_eq_false c3];rfl);simp only[go_sem,i130_l1,h0,h1,h2,h3,dF,dK,hF,fJ,Pc.ps,aw,aL,c1,c2,c3,w1,o];exact⟨by rw[e],dd⟩
 have:k=l.length:=aa;subst this;simp only[go_sem,i130_l1,dF,dK,eK];refine⟨rfl,?_,dd⟩;rw[jh,Hg,jR] at hF;exact .inr ⟨by simpa using aF,gg,by simp[jP],hF⟩
def C0(p:Pc):Bool:=(p.l.kind==1)&&p.d
def pdA(l:List Pc)(i:Nat):Bool:=match l[i]? with|some p=>C0 p|none=>false
theorem Ns{l:List Pc}{i:Nat}{p:Pc}(h:l[i]?=some p):pdA l i=C0 p:=by simp[pdA,h]
def qM(l:List Pc):Option Nat:=(List.range l.length).find? (pdA l)
theorem akp(p:Pc):aI S 118 [.agg (p.ps.map .p)] (rb (C0 p)):=by
 refine aY c118 ?_;unfold C0;cases h:(p.l.kind==1) with
 |true=>simp only[go_sem,i118,Pc.ps,h]
 |false=>simp only[go_sem,i118,Pc.ps,h]
theorem anR(l:List Pc)(hl:l.length<=1000000):aI S 117 [.one (.p (.sl (dJ l))),.one (.p (.fn 118 [] []))] (ri (match qM l with|some k=>(k:Int)|none=> -1)):=by
 refine aY c117 ?_;simp only[go_sem,i117];refine cV (fun k ak aj=>ak 0=.one (.p (.sl (dJ l)))/\ak 1=.one (.p (.fn 118 [] []))/\ak 7=vi l.length/\ak 8=vi k/\ ∀j,j<k->pdA l j=false) 0 l.length (bd _) ?_ ?_
 .simp only[go_sem];exact⟨rfl,fun j hj=>absurd hj (qE j)⟩
 rintro k ak aj hk ⟨h0,h1,h7,h8,hn⟩
 by_cases aw:k<l.length
 .have aL:((k:Int)<(l.length:Int)):=aa;obtain⟨p,hp⟩:=aK aw;have fJ:=jN hp;have w1:=cK (n:=k) aa;have pd:=akp p;have nQ:=Ns hp;cases hb:C0 p with
  |true=>rw[hb] at pd nQ;have hf:qM l=some k:=DT aw hn nQ;simp only[Pc.ps,dG,kE] at pd;simp only[go_sem,i117_l1,h0,h1,h7,h8,aL,fJ,Pc.ps,s118,cS pd,hf]
  |false=>
   rw[hb] at pd nQ;simp only[Pc.ps,dG,kE] at pd;simp only[go_sem,i117_l1,h0,h1,h7,h8,aw,aL,fJ,Pc.ps,s118,cS pd,w1];intro j hj;rcases pV.1 hj with h|rfl
   .exact hn j h
   exact nQ
 have:k=l.length:=aa;subst this;have hf:qM l=none:=Lg hn;simp only[go_sem,i117_l1,i117_r2,h7,h8,eK,hf]
abbrev lK:Nat:=42
def vt(l:List Pc)(alL k:Nat):List Let:=(List.range k).map fun i=>(l.getD ((alL+i)%l.length) ⟨j9,false⟩).l
theorem arS{l:List Pc}{f k:Nat}{p:Pc}(h:l[(f+k)%l.length]?=some p):vt l f (k+1)=vt l f k++[p.l]:=by simp[vt,w8,de,h]
def mw(l:List Pc):List Let:=vt l ((qM l).getD 0) l.length
abbrev dA(o:List Let):List (List PV):=o.map Let.ps
theorem amg{s1 t1 z1:Nat}{es:List (List PV)}{c:C}{x:PV}{aj:aq}(h:grown s1 t1 z1 es (.one c) aj):iA aj (.agg [.p x,c])=some (.agg [.p x,aR t1 z1 es]):=by obtain⟨c',o,hc,h2,h3⟩:=h.jc;cases hc;rcases h3 with rfl|rfl<;>simp[iA,rK,my,lM,h2,(show Go.Abs.jc aj (.p x)=some (.p x,[],[]) from rfl),apart,ud,rq]
theorem alp(F:Nat)(l:List Pc)(hl:l.length<=1000000)(x1 x2 x3 x4 x5 x6:PV):aI S 96 [.one (.p (.box [.int .i64 F,x1,x2,x3,x4,x5,x6])),.one (.p (.sl (dJ l)))] (.agg [.p (.int .i64 F),aR lK 6 (dA (mw l))]):=by
 have px:=anR l hl;have hfd:∃f,(qM l).getD 0=f/\(l≠[]->f<l.length):=by
  refine⟨_,rfl,fun aF=>?_⟩;cases h:qM l with
  |none=>exact gV.2 aF
  |some k=>exact fm.1 (Fi h)
 obtain⟨f,hf,rR⟩:=hfd;have rW:((qM l=none/\f=0)\/qM l=some f):=by
  cases h:qM l with
  |none=>rw[h] at hf;exact .inl ⟨rfl,hf.symm⟩
  |some k=>rw[h] at hf;exact .inr (congrArg some hf)
 unfold mw;rw[hf];have main:∀(ak:Env) (aj:aq),ak 1=.one (.p (.sl (dJ l)))->ak 4=.one (.bk 6144000000 1 0)->ak 5=.one (.bk 6144064320 1 0)->ak 6=vi f->ak 17=vi l.length->ak 18=vi ((0:Nat):Int)->aj 6144000000=(1,some (.var [.p (.int .i64 0),.p .nils]))->aj 6144064320=(1,some (.var [.p (.int .i64 F),.p .nils]))->
   W S .all (.loop i96_l1) (nJ 0 (zU S .all i96_r2 (lE .all [(4,some (some 2))] fun v aj=>iA aj v=some (.agg [.p (.int .i64 F),aR lK 6 (dA (vt l f l.length))])))) ak aj:=by
  intro ak aj e1 e4 e5 e6 H0 Ia b0 bO;refine cV (fun k ak aj=>ak 1=.one (.p (.sl (dJ l)))/\ak 4=.one (.bk 6144000000 1 0)/\ak 5=.one (.bk 6144064320 1 0)/\ak 6=vi f/\ak 17=vi l.length/\ak 18=vi k/\aj 6144000000=(1,some (.var [.p (.int .i64 0),.p .nils]))/\ ∃c,aj 6144064320=(1,some (.var [.p (.int .i64 F),c]))/\grown 6144384832 lK 6 (dA (vt l f k)) (.one c) aj) 0 l.length (bd _) ⟨e1,e4,e5,e6,H0,Ia,b0,.p .nils,bO,.inl ⟨rfl,rfl⟩⟩ ?_;rintro k ak aj hk ⟨h1,h4,h5,h6,gJ,gK,b0,c,bO,gc⟩
  by_cases aw:k<l.length
  .have aL:((k:Int)<(l.length:Int)):=aa;have aF:l≠[]:=gV.1 aa;have rR:=rR aF;have w1:=cK (n:=k) aa;have w2:=wrap_add (a:=f) (b:=k) aa;have e2:=yC (f+k) l.length;have hm:=dQ (f+k) (show 0<l.length by omega);obtain⟨p,hp⟩:=aK hm;have fJ:=jN hp;have hz:¬((l.length:Int)=0):=aa;have hr:=arS hp;have hle:(vt l f k).length=k:=by simp[vt]
   simp only[go_sem,i96_l1,h1,h5,h6,gJ,gK,bO,aL,w2,e2,hz,fJ,Pc.ps];refine xz (site:=6144384832) (id:=6144384832) (bytes:=48) (xs:=[p.l.ps]) (rd:=[6144384768]) (gc.of_eq (aP ae)) (by simp[ez,aM,Let.ps]) (.inl rfl) (by simp only[cF,hle,cq,dN];omega) fun c' bG r u hc hb hru=>?_;have bO1:=(hb 6144064320 ae ae).trans ((aP ae).trans bO);have b01:=(hb 6144000000 ae ae).trans ((aP ae).trans b0);simp only[go_sem,h1,h4,h5,h6,gJ,gK,bO1,b01,aw,w1];refine⟨?_,c',rfl,?_⟩
   .rcases hru with ⟨rfl,rfl⟩|⟨rfl,rfl⟩|⟨rfl,rfl⟩<;>kernel_rfl
   rw[hr,dA,km];exact hc.of_eq (aP ae)
  have:k=l.length:=aa;subst this;simp only[go_sem,i96_l1,i96_r2,h4,h5,gJ,gK,bO,b0,eK];exact amg (gc.of_eq (aP ae))
 refine aY c96 ?_;rcases rW with ⟨hn,rfl⟩|hs
 .rw[hn] at px;have Mr:¬((0:Int)< -1):=ae;simp only[go_sem,i96,s117,eH px];exact main _ _ (by simp only[go_sem]) (by simp only[go_sem]) (by simp only[go_sem]) (by simp only[go_sem];rfl) (by simp only[go_sem]) (by simp only[go_sem];rfl) (by simp only[go_sem]) (by simp only[go_sem])
 rw[hs] at px;simp only[go_sem,i96,s117,eH px];exact main _ _ (by simp only[go_sem]) (by simp only[go_sem]) (by simp only[go_sem]) (by simp only[go_sem];split<;>(first|rfl|(congr 1;simp;omega))) (by simp only[go_sem]) (by simp only[go_sem];rfl) (by simp only[go_sem]) (by simp only[go_sem])
theorem aog:aI S 94 [] (.agg [.p .yn,.p (.fn 108 [] []),.p (.fn 109 [] []),.p (.fn 110 [] []),.p (.fn 111 [] []),.p (.fn 112 [] []),.p (.fn 113 [] []),.p (.fn 114 [] []),.p (.fn 115 [] []),.p (.fn 116 [] []),.p (.fn 116 [] [])]):=by refine aY c94 ?_;simp only[go_sem,i94];rfl
def mZ(k:Int):Int×Int:=if k=2 then (2,0) else if k=5 then (2,1) else if k=7 then (4,2) else (0,0)
theorem amh(k:Int):aI S 95 [vi k] (.tup [.one (.p (.int .i64 (mZ k).1)),.one (.p (.int .i64 (mZ k).2))]):=by
 refine aY c95 ?_;unfold mZ;by_cases h2:k=2
 .subst h2;simp only[go_sem,i95];rfl
 by_cases h5:k=5
 .subst h5;simp only[go_sem,i95];rfl
 by_cases h7:k=7
 .subst h7;simp only[go_sem,i95];rfl
 rw[if_neg h2,if_neg h5,if_neg h7];have e2:(k==2)=false:=by simpa using h2
 have e5:(k==5)=false:=by simpa using h5
 have e7:(k==7)=false:=by simpa using h7
 simp only[go_sem,i95,e2,e5,e7];rfl
theorem YT{l:List Pc}(aF:l≠[])(hl:l.length<=1000000):aI S 132 [.one (.p (.sl (dJ l)))] (.one (aR ml 7 (dJ l))):=by
 cases l with
 |nil=>exact absurd rfl aF
 |cons p t=>exact ajE p t hl
section
variable {Q:dy} {ak:Env} {aj:aq} {os:List bl} {d:Option Nat}
theorem abL{id:Nat}{l:List Pc}{c:C}{g ab b:Int}(hl:l.length<=1000000)(hb: -100<=b/\b<=100)(hr:∀p∈l,-1000000<=p.l.aB/\p.l.aB<=1000000)(hg:grown id ml 7 (dJ l) (.one c) aj)
  (hK:∀ao,grown id ml 7 (dJ (jP l g ab b)) (.one c) ao->(∀i,i≠id->ao i=aj i)->RN S .all os Q (put ak d (.tup [])) ao):gP S .all (.sc 130 [.one c,vi g,vi ab,vi b]) d os Q ak aj:=by
 have ho:l=[]\/(allow (S.ctx .all) 130 [.one c,vi g,vi ab,vi b] aj).ok id=true:=by
  rcases QE hg with ⟨h,_⟩|h
  .exact .inl (by simpa using h)
  exact .inr (sB (by simp[h]))
 refine rM (P:=agj id (dJ (jP l g ab b)) c aj) zH (asg ho hl hb hr hg) ?_;rintro v ao ⟨rfl,h1,h2⟩
 exact hK ao h1 h2
end
theorem aoD(fs:List Fc):∀(j:Nat) (L:List Nat),∀v∈qx fs j L,v∈L\/v<j+fs.length:=by
 have iH:∀(ds:List Nat) (L:List Nat) (x:Nat),∀v∈oD L ds x,v∈L\/v=x:=by
  intro ds
  induction ds with
  |nil=>intro L x v h;exact .inl h
  |cons d ds ih=>
   intro L x v h;rcases ih (L.set d x) x v h with h|h
   .rcases List.mem_or_eq_of_mem_set h with h|h
    .exact .inl h
    exact .inr h
   exact .inr h
 induction fs with
 |nil=>intro j L v h;exact .inl h
 |cons f r ih=>
  intro j L v h;rcases ih (j+1) (oD L f.dh j) v h with h|h
  .rcases iH _ _ _ v h with h|h
   .exact .inl h
   subst h;exact .inr af
  exact .inr (by simp only[cq];omega)
def Nf:Fc:=⟨false,[],[],[],false⟩
def tA(F:Nat)(ls:List Let)(d:Nat):Fc:=(eI F ls).getD ((nX F ls).getD d 0) Nf
theorem Wb(F:Nat)(ls:List Let):(nX F ls).length=2*ls.length:=by simp[nX,PW]
theorem UM(g:dr F ls){d:Nat}(hd:d<2*ls.length):∃j,(nX F ls)[d]?=some j/\(eI F ls)[j]?=some (tA F ls d)/\j<(eI F ls).length:=by
 obtain⟨j,hj⟩:=aK (ls:=nX F ls) (k:=d) (by rw[Wb];exact hd);have hn:0<(eI F ls).length:=by rw[aa6,g.nw];omega
 have mF:j<(eI F ls).length:=by
  rcases aoD (eI F ls) 0 _ j (aU hj) with h|h
  .have:=Rq h;omega
  omega
 refine⟨j,hj,?_,mF⟩;obtain⟨f,hf⟩:=aK mF;unfold tA;rw[de (l:=nX F ls),hj,mS,de,hf];rfl
def aeH(b:Nat)(r:Int)(d:Bool):Pc:=⟨⟨1,b,r,0,0,false⟩,d⟩
def Oa(ls:List Let)(av b c:Nat)(f:Fc)(side:Bool):List Pc:=EF (jP (pieces ls) b c 2) [aeH b (if f.fZ !=side then ((c+2:Nat):Int) else ((c+1:Nat):Int)) f.fZ,aeH b (if f.fZ !=side then ((c+1:Nat):Int) else ((c+2:Nat):Int)) (!f.fZ)] av
def amR(F:Nat)(ls:List Let)(av b c:Nat):Option (List Pc):=
 if (b,c)∈(tA F ls (2*av)).places then some (Oa ls av b c (tA F ls (2*av)) false)
 else if (b,c)∈(tA F ls (2*av+1)).places then some (Oa ls av b c (tA F ls (2*av+1)) true) else none
def kR (o:Option (List Pc)):RV:=.tup [.one (aR ml 7 (dJ (o.getD []))),.one (.p (.bool o.isSome))]
theorem arj(g:dr F ls):∀p∈pieces ls,-1000000<=p.l.aB/\p.l.aB<=1000000:=by
 intro p hp;obtain⟨i,hi⟩:=jD hp;have xS:i<ls.length:=by rw[<- fi];exact(aS.1 hi).1
 obtain⟨l,hl⟩:=aK xS;rw[pL hl] at hi;cases hi;rcases g.ok.kinds l (aU hl) with h|h
 .have hg:=g.ok.ax.eU l (aU hl) h;have:=hg.r0;have:=hg.r1;have hc:cg ls l.gate.toNat<=ls.length:=xx _ _;have:=g.len;simp only;omega
 have:=(Qg (f:=F) h).1 (g.bad l (aU hl));simp only[this.1.2];omega
def lmR(ls:List Let)(av:Nat)(sg:Int)(o:Bool):List Pc:=EF (pieces ls) [⟨⟨2,0,0,((ay Let.aC ls/2+1:Nat):Int),sg,o⟩,false⟩,⟨⟨2,0,0,((ay Let.aC ls/2+1:Nat):Int),sg,!o⟩,false⟩] av
def jo(n:Nat)(i:Int):Bool:=decide (0<=i)&&decide (i<(n:Int))
theorem is_p(i:Int)(n:Nat):aI S 107 [vi i,.one (.p (.box [.int .i64 n]))] (rb (jo n i)):=by
 refine aY c107 ?_;unfold jo;by_cases h1:0<=i
 .by_cases h2:i<(n:Int)
  .simp only[go_sem,i107,h1,h2]
  simp only[go_sem,i107,h1,h2]
 simp only[go_sem,i107,h1]
theorem JM(l:List Let):((dA l).all fun e=>e.all PV.scalar)=true:=by simp[Let.ps,PV.scalar]
abbrev pN(F:Nat)(L:List Let):RV:=.tup [.agg [.p (.int .i64 F),aR lK 6 (dA L)],.one (.p (.int .i64 0))]
def y9(F:Nat)(ls:List Let)(k:Int):Option (List Pc)->RV
 |none=>sX 4
 |some L=>if (400:Int)<(ls.length:Int)+(mZ k).1\/(100:Int)<((ay Let.aC ls/2:Nat):Int)+(mZ k).2 then sX 7 else pN F (mw L)
def jr(h:Nat):List Let:=(List.range (2*h)).map fun i=>⟨1,0,((i+1:Nat):Int),0,0,false⟩
section
variable {h:Nat}
theorem Bn:(jr h).length=2*h:=by simp[jr]
theorem E0{i:Nat}(hi:i<2*h):(jr h)[i]?=some ⟨1,0,((i+1:Nat):Int),0,0,false⟩:=by unfold jr;rw[fR,te hi];rfl
theorem JT{l:Let}(hl:l∈jr h):∃i,i<2*h/\l=⟨1,0,((i+1:Nat):Int),0,0,false⟩:=by obtain⟨i,hi,rfl⟩:=dq.1 hl;exact⟨i,fm.1 hi,rfl⟩
theorem Xd(p:Let->Bool)(hp:∀l∈jr h,p l=true)(k:Nat)(hk:k<=2*h):ay p ((jr h).take k)=k:=by unfold ay;rw[List.countP_eq_length.2 fun l hl=>hp l (vJ hl),eQ,Bn];omega
theorem agK:∀l∈jr h,l.aA=true:=fun l hl=>by obtain⟨i,_,rfl⟩:=JT hl;rfl
theorem atB:ay Let.aA (jr h)=2*h:=by have:=Xd (h:=h) Let.aA agK (2*h) (aX _);rwa[fS (by rw[Bn];exact aX _)] at this
theorem atH:ay Let.aC (jr h)=0:=by unfold ay;rw[Hf];intro l hl;obtain⟨i,_,rfl⟩:=JT hl;simp[Let.aC]
theorem atE:cg (jr h) 0=2*h:=by have:=Xd (h:=h) (mU 0) (fun l hl=>by obtain⟨i,_,rfl⟩:=JT hl;rfl) (2*h) (aX _);rwa[fS (by rw[Bn];exact aX _)] at this
theorem Xe{i:Nat}(hi:i<=2*h):dn (jr h) i=(i%2==0):=by unfold dn;rw[Xd (h:=h) Let.aA agK i hi]
theorem Q5(i:Nat):dM (jr h) ⟨1,0,((i+1:Nat):Int),0,0,false⟩=i:=by unfold dM;have:fv (jr h) 0=0:=rfl;simp only[Int.toNat_zero,this,uK];omega
theorem atF:EL 1 (jr h)=true:=by
 refine(M7 (F:=1)).2 ⟨?_,?_,?_⟩
 .rw[Dt];intro l hl;obtain⟨i,_,rfl⟩:=JT hl;simp[dj]
 .refine(GQ (F:=1) fun l hl hp=>?_).2 ⟨fun l hl hp=>?_,fun i j l m h1 h2 _ _ he=>?_⟩
  .obtain⟨i,_,rfl⟩:=JT hl;exact⟨af,af⟩
  .obtain⟨i,hi,rfl⟩:=JT hl;refine⟨af,af,by simp;omega,?_⟩;show((i+1:Nat):Int)<=(cg (jr h) (0:Int).toNat:Int);rw[Int.toNat_zero,atE];omega
  have i1:=(aS.1 h1).1;have i2:=(aS.1 h2).1;rw[Bn] at i1 i2;rw[E0 i1] at h1;rw[E0 i2] at h2;cases h1;cases h2;rw[Q5,Q5] at he;exact he
 unfold kW;have h0:eE (jr h) (jr h).length=[]:=by
  have:∀k,k<=2*h->eE (jr h) k=[]:=by
   intro k
   induction k with
   |zero=>intro _;rfl
   |succ k ih=>intro hk;unfold eE;rw[E0 (show k<2*h by omega),ih aa];rfl
  exact this _ (by rw[Bn];exact aX _)
 rw[h0,atH];simp only[cH];refine⟨⟨rfl,jf.2 fun k hk=>?_⟩,rfl⟩;have hk:=fm.1 hk;rw[Bn] at hk;unfold lQ;rw[E0 hk];rfl
theorem agO(hh:h<=500000):eS 1 (jr h):=by
 obtain⟨cU,kz,eV⟩:=(M7 (F:=1)).1 (atF (h:=h));have nM:∀l∈jr h,dj 1 l=false:=fun l hl=>by simpa using Dt.1 cU l hl
 have hg:qe 1 (jr h):=fun l hl hp=>((r4 hp).1 (nM l hl)).1.1.1;obtain⟨g1,g2⟩:=(GQ hg).1 kz;exact⟨by rw[Bn];omega,⟨g1,g2⟩,eV,fun l hl=>vQ (nM l hl)⟩
theorem Xb:(aE (jr h)).length=2*h:=by rw[HB,atB]
theorem atC(hh:h<=500000){i:Nat}(hi:i<2*h):(aE (jr h))[i]?=some i:=by have:=Oh (agO hh).ax (E0 hi) rfl;rwa[Q5] at this
theorem atD(hh:h<=500000){i:Nat}(hi:i<2*h):(aE (jr h)).getD i 0=i:=by rw[de,atC hh hi];rfl
theorem agL(hh:h<=500000){i:Nat}(hi:i<2*h):(aE (jr h)).idxOf i=i:=by rw[HC (agO hh).ax (E0 hi) rfl,Q5]
theorem atI(hh:h<=500000){p:Nat}(hp:p<2*h):aT (jr h) (4*h+2*p)=dD (2*h) ((p+1)%(2*h)) (!(((p+1)%(2*h))%2==0)):=by have hm:=dQ (p+1) (show 0<2*h by omega);show nE _ _ _=_;unfold nE;rw[Bn,Xb,if_pos aa,if_pos aa,show(4*h+2*p-2*(2*h))/2=p by omega,atD hh hm,Xe (Nat.le_of_lt hm)]
theorem agN(hh:h<=500000){e:Nat}(he:e<2*h):aT (jr h) (2*e)=if ((e+1)%(2*h))%2=0 then 4*h+2*((e+1)%(2*h)) else 4*h+2*(((e+1)%(2*h)+2*h-1)%(2*h))+1:=by
 have hm:=dQ (e+1) (show 0<2*h by omega);show nE _ _ _=_;unfold nE;rw[Bn,Xb,if_neg aa];have e1:(2*e%2==0)=true:=af;simp only[e1,if_true,show 2*e/2=e by omega,E0 hm,agL hh hm,Xe (Nat.le_of_lt hm)];generalize (e+1)%(2*h)=m;by_cases c:m%2=0
 .simp[c];omega
 simp[c];omega
theorem agM(hh:h<=500000){e:Nat}(he:e<2*h):aT (jr h) (2*e+1)=if e%2=0 then 4*h+2*((e+2*h-1)%(2*h))+1 else 4*h+2*e:=by
 show nE _ _ _=_;unfold nE;rw[Bn,Xb,if_neg aa];have e1:((2*e+1)%2==0)=false:=af;simp only[e1,dx,if_false,show(2*e+1)/2=e by omega,E0 he,agL hh he,Xe (Nat.le_of_lt he)];by_cases c:e%2=0
 .simp[c];omega
 have:(e%2==0)=false:=by simpa using c
 simp[c];omega
end
section
variable {h:Nat}
theorem Wm{n e:Nat}(he:e<n):(e+1)%n=if e+1=n then 0 else e+1:=by
 by_cases c:e+1=n
 .rw[if_pos c,c,yH]
 rw[if_neg c,gD aa]
theorem Qa{n m:Nat}(hm:m<n):(m+n-1)%n=if m=0 then n-1 else m-1:=by
 by_cases c:m=0
 .rw[if_pos c];subst c;rw[iD,gD aa]
 rw[if_neg c,show m+n-1=(m-1)+n by omega,w9,gD aa]
theorem v1(hh:h<=500000){e:Nat}(he:e<2*h)(c:e%2=0):aT (jr h) (2*e)=4*h+2*e+1:=by rw[agN hh he,Wm he,if_neg (by omega:¬e+1=2*h),if_neg aa,Qa aa,if_neg aa];omega
theorem v2(hh:h<=500000){e:Nat}(he:e<2*h)(c:e%2=1):∃q,q<2*h/\q%2=0/\(e+1<2*h->q=e+1)/\aT (jr h) (2*e)=4*h+2*q:=by
 rw[agN hh he,Wm he];by_cases d:e+1=2*h
 .rw[if_pos d];exact⟨0,aa,rfl,aa,rfl⟩
 rw[if_neg d,if_pos aa];exact⟨e+1,aa,aa,fun _=>rfl,rfl⟩
theorem v3(hh:h<=500000){e:Nat}(he:e<2*h)(c:e%2=0):∃q,q<2*h/\q%2=1/\(1<=e->q=e-1)/\aT (jr h) (2*e+1)=4*h+2*q+1:=by
 rw[agM hh he,if_pos c,Qa he];by_cases d:e=0
 .rw[if_pos d];exact⟨2*h-1,aa,aa,aa,rfl⟩
 rw[if_neg d];exact⟨e-1,aa,aa,fun _=>rfl,rfl⟩
theorem v4(hh:h<=500000){e:Nat}(he:e<2*h)(c:e%2=1):aT (jr h) (2*e+1)=4*h+2*e:=by rw[agM hh he,if_neg aa]
theorem v5(hh:h<=500000){p:Nat}(hp:p<2*h)(c:p%2=1):aT (jr h) (4*h+2*p)=2*p+1:=by
 rw[atI hh hp,Wm hp];by_cases d:p+1=2*h
 .rw[if_pos d];show dD (2*h) 0 false=_;unfold dD;rw[if_neg ae,Qa aa,if_pos rfl];omega
 rw[if_neg d];have:(!((p+1)%2==0))=false:=by simp;omega
 rw[this];unfold dD;rw[if_neg ae,Qa aa,if_neg aa];omega
end
theorem abc(L:List Pc):(mw L).length=L.length:=by simp[mw,vt]
theorem PD(l x:List Pc)(k:Nat):(EF l x k).length=l.length+x.length:=by simp only[EF,dX,eQ,iC];omega
end
end Go.Abs
