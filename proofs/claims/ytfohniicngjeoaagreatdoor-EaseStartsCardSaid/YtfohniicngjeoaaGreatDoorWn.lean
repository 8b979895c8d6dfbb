/- A part. -/
import Derived.Test.YtfohniicngjeoaaGreatDoorWh
set_option linter.all false
set_option maxRecDepth 100000
set_option maxHeartbeats 16000000
namespace Go.Abs
section
variable{ls:List Let}{F:Nat}
theorem acF{e:List PV}(h:e.length=1):∃x0,e=[x0]:=by
 match e,h with
 |[a],_=>exact⟨a,rfl⟩
theorem acG{e:List PV}(h:e.length=2):∃x0 x1,e=[x0,x1]:=by
 match e,h with
 |[a,b],_=>exact⟨a,b,rfl⟩
structure wI (es fs:List (List PV)) (k:Nat):Prop where
 len:fs.length=es.length
 at':∀i,i<es.length->fs[i]?=if i<k\/es.length-1-i<k then es[es.length-1-i]? else es[i]?
theorem wI.start(es:List (List PV)):wI es es 0:=⟨rfl,fun i _=>by rw[if_neg aa]⟩
theorem wI.step{es fs:List (List PV)}{k:Nat}{a b:List PV}(h:wI es fs k)(hk:k<es.length-1-k)(ha:es[k]?=some a)(hb:es[es.length-1-k]?=some b):
  fs[k]?=some a/\fs[es.length-1-k]?=some b/\wI es ((fs.set k b).set (es.length-1-k) a) (k+1):=by
 have hlen:=h.len;refine⟨?_,?_,⟨by rw[qX,qX];exact hlen,fun i hi=>?_⟩⟩
 .rw[h.at' k aa,if_neg aa,ha]
 .rw[h.at' _ aa,if_neg aa,hb]
 rw[pN,qX];by_cases e1:es.length-1-k=i
 .rw[if_pos e1,if_pos aa,if_pos aa,show es.length-1-i=k by omega,ha]
 rw[if_neg e1,pN];by_cases e2:k=i
 .subst e2;rw[if_pos rfl,if_pos aa,if_pos aa,hb]
 rw[if_neg e2,h.at' i hi];by_cases e3:i<k\/es.length-1-i<k
 .rw[if_pos e3,if_pos aa]
 rw[if_neg e3,if_neg aa]
theorem wI.done{es fs:List (List PV)}{k:Nat}(h:wI es fs k)(hk:¬k<es.length-1-k):fs=es.reverse:=by
 refine Kb fun i=>?_;rcases Nat.lt_or_ge i es.length with hi|hi
 .rw[h.at' i hi,Nu hi];by_cases e:i<k\/es.length-1-i<k
  .rw[if_pos e]
  rw[if_neg e,show es.length-1-i=i by omega]
 rw[tZ (by rw[h.len];exact hi),tZ (by rw[qW];exact hi)]
def GL(id ty z:Nat)(es:List (List PV))(c:C)(aj:aA)(v:V)(ao:aA):Prop:=v=.tup []/\grown id ty z es.reverse (.one c) ao/\Kept (· =id) aj ao
theorem apu{al:Al}{aj:aA}{id ty:Nat}{es:List (List PV)}{c:C}(o:es=[]\/al.ok id=true)(hl:es.length<=1000000)(mL:∀e∈es,e.length=1/\ ∀v∈e,v.norm=v)(h:grown id ty 1 es (.one c) aj):
  ∃v ao,iK S 125 [.one c] al aj v ao/\GL id ty 1 es c aj v ao:=by
 refine mF c125 (iv rfl) ?_;rcases h with ⟨rfl,h2⟩|⟨aH,g,h2,hC⟩
 .cases h2;have w0:IntKind.i64.wrap (((0:Nat):Int)-1)= -1:=ae;have hz:¬((0:Int)< -1):=ae;simp only[go_sem,i125,w0];refine cV (fun k ak ao=>k=0/\ak 2=vi 0/\ak 3=vi (-1)/\ao=aj) 0 0 (bN _) ?_ ?_
  .simp only[go_sem]
  rintro k ak ao _ ⟨rfl,h2,h3,rfl⟩
  simp only[go_sem,i125_l1,h2,h3,hz];exact⟨rfl,.inl ⟨rfl,rfl⟩,fun _ _=>rfl⟩
 cases h2;have o:=o.resolve_left aH;have w0:=ye (a:=es.length) aa;simp only[go_sem,i125,w0];refine cV (fun k ak ao=>ak 0=.one (.hsl id g 1 0 es.length)/\ak 2=vi k/\ak 3=vi ((es.length:Int)-1-(k:Int))/\ ∃fs,ao id=(g,some (.arr ty 1 fs))/\wI es fs k/\Kept (· =id) aj ao) 0 es.length (bG _) ?_ ?_
 .simp only[go_sem];refine⟨rfl,af,es,hC,wI.start es,Kept.refl _ _⟩
 rintro k ak ao hk ⟨h0,h2,h3,fs,hF,hI,dd⟩
 by_cases ay:k<es.length-1-k
 .have e1:((es.length:Int)-1-(k:Int))=((es.length-1-k:Nat):Int):=aa;rw[e1] at h3;have aJ:((k:Int)<((es.length-1-k:Nat):Int)):=aa;have w1:=cn (n:=k) aa;have w2:IntKind.i64.wrap (((es.length-1-k:Nat):Int)-1)=((es.length:Int)-1-((k+1:Nat):Int)):=by
   rw[ye aa];omega
  obtain⟨a,ha⟩:=aL (show k<es.length by omega);obtain⟨b,hb⟩:=aL (show es.length-1-k<es.length by omega);obtain⟨fa,fb,vW⟩:=hI.step ay ha hb;obtain⟨la,na⟩:=mL a (aU ha);obtain⟨lb,nb⟩:=mL b (aU hb);obtain⟨x0,rfl⟩:=acF la;obtain⟨y0,rfl⟩:=acF lb;have Me:=na x0 af;have Mf:=nb y0 af;have xE:=hI.len;have F4:¬(k=es.length-1-k):=aa;have aa6:¬(es.length-1-k=k):=aa;have l1:k<fs.length:=aa;have l2:es.length-1-k<fs.length:=aa;have l3:k<es.length:=aa;have l4:es.length-1-k<es.length:=aa;simp only[go_sem,i125_l1,h0,h2,h3,hF,aJ,fa,fb,w1,w2,o,l1,l3,l4,F4,Me,Mf,pN];refine⟨aG,_,rfl,vW,?_⟩;exact(dd.dK rfl _).dK rfl _
 have aJ:¬((k:Int)<(es.length:Int)-1-(k:Int)):=aa;simp only[go_sem,i125_l1,h2,h3,aJ];refine⟨rfl,?_,dd⟩;rw[hI.done ay] at hF;exact .inr ⟨by simpa using aH,g,by rw[qW],hF⟩
theorem apw{al:Al}{aj:aA}{id ty:Nat}{es:List (List PV)}{c:C}(o:es=[]\/al.ok id=true)(hl:es.length<=1000000)(mL:∀e∈es,e.length=2/\ ∀v∈e,v.norm=v)(h:grown id ty 2 es (.one c) aj):
  ∃v ao,iK S 124 [.one c] al aj v ao/\GL id ty 2 es c aj v ao:=by
 refine mF c124 (iv rfl) ?_;rcases h with ⟨rfl,h2⟩|⟨aH,g,h2,hC⟩
 .cases h2;have w0:IntKind.i64.wrap (((0:Nat):Int)-1)= -1:=ae;have hz:¬((0:Int)< -1):=ae;simp only[go_sem,i124,w0];refine cV (fun k ak ao=>k=0/\ak 2=vi 0/\ak 3=vi (-1)/\ao=aj) 0 0 (bN _) ?_ ?_
  .simp only[go_sem]
  rintro k ak ao _ ⟨rfl,h2,h3,rfl⟩
  simp only[go_sem,i124_l1,h2,h3,hz];exact⟨rfl,.inl ⟨rfl,rfl⟩,fun _ _=>rfl⟩
 cases h2;have o:=o.resolve_left aH;have w0:=ye (a:=es.length) aa;simp only[go_sem,i124,w0];refine cV (fun k ak ao=>ak 0=.one (.hsl id g 2 0 es.length)/\ak 2=vi k/\ak 3=vi ((es.length:Int)-1-(k:Int))/\ ∃fs,ao id=(g,some (.arr ty 2 fs))/\wI es fs k/\Kept (· =id) aj ao) 0 es.length (bG _) ?_ ?_
 .simp only[go_sem];refine⟨rfl,af,es,hC,wI.start es,Kept.refl _ _⟩
 rintro k ak ao hk ⟨h0,h2,h3,fs,hF,hI,dd⟩
 by_cases ay:k<es.length-1-k
 .have e1:((es.length:Int)-1-(k:Int))=((es.length-1-k:Nat):Int):=aa;rw[e1] at h3;have aJ:((k:Int)<((es.length-1-k:Nat):Int)):=aa;have w1:=cn (n:=k) aa;have w2:IntKind.i64.wrap (((es.length-1-k:Nat):Int)-1)=((es.length:Int)-1-((k+1:Nat):Int)):=by
   rw[ye aa];omega
  obtain⟨a,ha⟩:=aL (show k<es.length by omega);obtain⟨b,hb⟩:=aL (show es.length-1-k<es.length by omega);obtain⟨fa,fb,vW⟩:=hI.step ay ha hb;obtain⟨la,na⟩:=mL a (aU ha);obtain⟨lb,nb⟩:=mL b (aU hb);obtain⟨x0,x1,rfl⟩:=acG la;obtain⟨y0,y1,rfl⟩:=acG lb;have Me:=na x0 af;have UN:=na x1 af;have Mf:=nb y0 af;have UO:=nb y1 af;have xE:=hI.len;have F4:¬(k=es.length-1-k):=aa;have aa6:¬(es.length-1-k=k):=aa;have l1:k<fs.length:=aa;have l2:es.length-1-k<fs.length:=aa;have l3:k<es.length:=aa;have l4:es.length-1-k<es.length:=aa;simp only[go_sem,i124_l1,h0,h2,h3,hF,aJ,fa,fb,w1,w2,o,l1,l3,l4,F4,Me,UN,Mf,UO,pN];refine⟨aG,_,rfl,vW,?_⟩;exact(dd.dK rfl _).dK rfl _
 have aJ:¬((k:Int)<(es.length:Int)-1-(k:Int)):=aa;simp only[go_sem,i124_l1,h2,h3,aJ];refine⟨rfl,?_,dd⟩;rw[hI.done ay] at hF;exact .inr ⟨by simpa using aH,g,by rw[qW],hF⟩
theorem Qa{site ty z:Nat}{es:List (List PV)}{c:C}{aj:aA}(h:grown site ty z es (.one c) aj):(es=[]/\jm aj (.one c)=[])\/jm aj (.one c)=[site]:=by
 rcases h with ⟨h1,h2⟩|⟨h1,g,h2,h3⟩
 .cases h2;exact .inl ⟨h1,Ju⟩
 cases h2;exact .inr (show jX aj 6 (.hsl site g z 0 es.length)=[site] from CQ (n:=5) h3)
section
variable {al:Al} {Q:dA} {ak:Env} {aj:aA} {os:List aO} {d:Option Nat}
theorem aaz{f id ty z:Nat}{es:List (List PV)}{c:C}(UX:∀ {al:Al} {aj:aA},es=[]\/al.ok id=true->grown id ty z es (.one c) aj->∃v ao,iK S f [.one c] al aj v ao/\GL id ty z es c aj v ao)(hs:S.sites f=[f])(hg:grown id ty z es (.one c) aj)(oid:al.ok id=true)(hf:al.fs.contains f=true)
  (hK:∀ao,grown id ty z es.reverse (.one c) ao->(∀i,i≠id->ao i=aj i)->RN S al os Q (put ak d (.tup [])) ao):gP S al (.sc f [.one c]) d os Q ak aj:=by
 refine rC (P:=GL id ty z es c aj) (holds_of ?_ ?_) (UX ?_ hg) ?_
 .show al.fD ([V.one c].map (jm aj)).flatten=true;rcases Qa hg with ⟨_,h⟩|h
  .simp[h,Al.fD]
  simp[h,Al.fD,oid]
 .show(S.sites f).all al.fs.contains=true;rw[hs];simp only[mB,pM,hf,wN]
 .rcases Qa hg with ⟨h,_⟩|h
  .exact .inl h
  exact .inr (se (by simp[h]))
 rintro v ao ⟨rfl,h1,h2⟩
 exact hK ao h1 h2
end
theorem aqH:S.sites 124=[124]:=ah
theorem aqG:S.sites 125=[125]:=ah
theorem Ni(ok:fj F ls){x:Nat}(h:x<nD ls):aV ls x<nD ls:=QD ok.j6 ok.hp h
abbrev rO(id:Nat):Prop:=jo id=104
structure FE (ls:List Let) (idS gS idB gB g8 gF:Nat) (sp:List Bool) (f:Fc) (cd cp cf:C) (aj:aA):Prop where
 bS:aj idS=(gS,some (.arr 4 1 (bP sp)))
 bB:aj idB=(gB,some (.arr 4 1 (bP (BJ ls))))
 b8:aj 6656000000=(g8,some (.var [.p (.bool false),.p .nils,.p .nils,.p .nils,.p (.bool false)]))
 bF:aj 6656128448=(gF,some (.var [.p (.bool f.ij),cd,cp,cf,.p (.bool f.outer)]))
 gd:grown 6656512256 3 1 (nP f.dp) (.one cd) aj
 gp:grown 6656896192 CN 2 (oD f.places) (.one cp) aj
 gf:grown 6656896448 3 1 (nP f.xh) (.one cf) aj
theorem agm(ok:fj F ls){f:Fc}{x k:Nat}(hx:x<nD ls)(h:f.dp.length<=k/\f.places.length<=k*(2*F+2)/\f.xh.length<=k*(2*F+2)):(f.add F ls x).dp.length<=k+1/\(f.add F ls x).places.length<=(k+1)*(2*F+2)/\(f.add F ls x).xh.length<=(k+1)*(2*F+2):=by
 obtain⟨i1,i2,i3⟩:=h;rw[Nat.succ_mul];unfold Fc.add;by_cases h:x<2*ls.length
 .rw[if_pos h];simp only[gh,dh,ff];exact⟨aa,aa,aa⟩
 rw[if_neg h];have hj:(x-2*ls.length)/2<(aF ls).length:=by unfold nD at hx;omega
 have l1:=ad5 ok hj;have l2:=ad4 ok hj;refine⟨by simp only;omega,?_,?_⟩
 .simp only[gh];split<;>(try rw[qW])<;>omega
 simp only[gh];split<;>(try rw[qW])<;>omega
theorem ajj{al:Al}(ok:fj F ls)(hF:F<=1000)(okf:∀id,rO id->al.ok id=true){idS gS idB gB g8 gF d:Nat}(oS:al.ok idS=true)(nS:¬rO idS)(nB:¬rO idB)(nSB:idS≠idB)(f1:al.fs.contains 124=true)(f2:al.fs.contains 125=true)(hd:d<2*ls.length){Q:dA}:
  ∀(fuel k x:Nat) (gO:List Bool) (f:Fc) (ak:Env) (aj:aA) (cd cp cf:C),ak 0=.one (.p (lD F ls))->ak 2=.one (.hsl idS gS 1 0 (2*ls.length))->ak 8=.one (.aY 6656000000 g8 0)->ak 9=vi ls.length->ak 10=vi (aF ls).length->ak 11=.one (.aY 6656128448 gF 0)->ak 12=vi x->
   FE ls idS gS idB gB g8 gF (gO.take (2*ls.length)) f cd cp cf aj->gO.length=nD ls->x<nD ls->Inv (aV ls) (nD ls) d gO x->xZ gO<fuel->(k+fuel<=5000000)->(f.dp.length<=k/\f.places.length<=k*(2*F+2)/\f.xh.length<=k*(2*F+2))->
   (∀aC ao vM nj vN,aC 8=ak 8->aC 11=ak 11->FE ls idS gS idB gB g8 gF ((fe (aV ls) fuel x gO).2.take (2*ls.length)) ((fe (aV ls) fuel x gO).1.foldl (Fc.add F ls) f) vM nj vN ao->(∀id,¬(rO id\/id=idS)->ao id=aj id)->Q .normal aC ao)->
   W S al (.loop i104_l1) (mI 0 Q) ak aj:=by
 have hl:=ok.hl;have gZ:(aF ls).length<=1000000:=mD (vL ls ls.length) hl;have iR:nD ls<=4000000:=by unfold nD;omega
 have m2:=tX (a:=ls.length) aa;have k0:al.ok 6656000000=true:=okf _ rfl;have kF:al.ok 6656128448=true:=okf _ rfl;have kd0:al.ok 6656512192=true:=okf _ rfl;have kd:al.ok 6656512256=true:=okf _ rfl;have kp:al.ok 6656896192=true:=okf _ rfl;have kf:al.ok 6656896448=true:=okf _ rfl;have kr1:al.ok 6656640128=true:=okf _ rfl;have kr2:al.ok 6656640129=true:=okf _ rfl;have hm:=maps ok;intro fuel
 induction fuel with
 |zero=>intro k x gO f ak aj cd cp cf _ _ _ _ _ _ _ _ _ _ _ h;omega
 |succ fuel ih=>
  intro k x gO f ak aj cd cp cf h0 h2 h8 h9 eQ fK jD hB DR Az hi hu hk hlen hq;have hle:=hm.le;obtain⟨l1,l2,l3⟩:=hlen;have akt:k*(2*F+2)<=5000000*2002:=Nat.mul_le_mul aa aa;have Ef:=agm ok Az ⟨l1,l2,l3⟩;unfold fe at hq;have nSi:∀ {a:Nat},rO a->a≠idS:=fun h e=>nS (e▸h);have nBi:∀ {a:Nat},rO a->a≠idB:=fun h e=>nB (e▸h);have nF:¬(6656128448=idS):=nSi rfl;refine rj ?_;cases hs:gO.getD x true with
  |true=>
   have hxd:=hi.i4 hs;have ay:x<2*ls.length:=aa;have aJ:((x:Int)<((2*ls.length:Nat):Int)):=aa;rw[hs] at hq;simp only[if_true] at hq;have hb:(gO.take (2*ls.length))[x]?=some true:=by
    have h1:=Wd ay (show 2*ls.length<=gO.length by omega);rw[show sn gO x=true from hs,dq] at h1;have zg:x<(gO.take (2*ls.length)).length:=by rw[iu];omega
    obtain⟨b,hb⟩:=aL zg;rw[hb] at h1 ⊢;exact congrArg some h1
   have kz:=sv hb;simp only[go_sem,i104_l1,h0,h2,h9,jD,m2,aJ,ay,hB.bS,kz,oS];exact hq _ _ cd cp cf (by simp only[go_sem]) (by simp only[go_sem]) hB (fun _ _=>rfl)
  |false=>
   have IS:gO[x]?=some false:=by
    rw[dq] at hs;cases h1:gO[x]? with
    |none=>rw[h1] at hs;cases hs
    |some b=>rw[h1] at hs;exact congrArg some hs
   have Es:=Nj IS;have pt:=Yu ok x (by unfold nD at Az;exact Az);have cQ:=hi.step hm DR Az hs;rw[hs] at hq;simp only[dL,if_false,Dd] at hq;by_cases xz:x<2*ls.length
   .have aJ:((x:Int)<((2*ls.length:Nat):Int)):=aa;have hb:(gO.take (2*ls.length))[x]?=some false:=by rw[mW,if_pos xz];exact IS
    have kz:=sv hb;have ia:=Hw (gO.take (2*ls.length)) x true;rw[afq] at ia;have Lv:f.add F ls x={f with dp:=f.dp++[x]}:=by unfold Fc.add;rw[if_pos xz]
    simp only[go_sem,i104_l1,h2,h9,fK,jD,m2,aJ,xz,hB.bS,hB.bF,kz,ia,oS,kF,kd0,nF];refine Oz (site:=6656512256) (id:=6656512256) (bytes:=8) (xs:=[[.int .i64 (x:Int)]]) (rd:=[6656512192]) (by simp[kd,kd0]) (hB.gd.of_eq ((aS ae).trans (aS (nSi rfl)))) (by simp[fF,aN]) (.inl rfl) (by simp only[cM,dh,ff];omega) fun c bh hc bj=>?_;have Iz:∀i,i≠6656512192->i≠6656512256->i≠idS->bh i=aj i:=fun i a b c=>(bj i b b).trans ((aS a).trans (aS c))
    have akM:=(bj idS (nSi rfl).symm (nSi rfl).symm).trans ((aS (nSi rfl).symm).trans wM);have Fs:=(Iz 6656128448 ae ae (nSi rfl)).trans hB.bF;simp only[go_sem,Fs,h0,fK,jD,kF,s89,FJ pt];refine ih (k+1) (aV ls x) (gO.set x true) (f.add F ls x) _ _ c cp cf ?_ ?_ ?_ ?_ ?_ ?_ ?_ ?_ (by rw[qX];exact DR) (Ni ok Az) cQ aa aa Ef ?_
    .simp only[go_sem,h0]
    .simp only[go_sem,h2]
    .simp only[go_sem,h8]
    .simp only[go_sem,h9]
    .simp only[go_sem,eQ]
    .simp only[go_sem,fK]
    .simp only[go_sem]
    .rw[Lv];refine⟨?_,?_,?_,wM,?_,?_,?_⟩
     .exact(aS (nSi rfl).symm).trans akM
     .exact(aS (nBi rfl).symm).trans ((Iz _ (nBi rfl).symm (nBi rfl).symm nSB.symm).trans hB.bB)
     .exact(aS ae).trans ((Iz _ ae ae (nSi rfl)).trans hB.b8)
     .exact(I9 _ _▸hc.of_eq (aS ae))
     .exact(hB.gp.of_eq (Iz _ ae ae (nSi rfl))).of_eq (aS ae)
     exact(hB.gf.of_eq (Iz _ ae ae (nSi rfl))).of_eq (aS ae)
    intro aC ao vM nj vN q8 xV tC dd;refine hq aC ao vM nj vN (by rw[q8];simp only[go_sem]) (by rw[xV];simp only[go_sem]) tC fun id hn=>?_;have a:∀y,rO y->id≠y:=fun y hy e=>hn (.inl (e▸hy));exact(dd id hn).trans ((aS (a _ rfl)).trans (Iz id (a _ rfl) (a _ rfl) fun e=>hn (.inr e)))
   have hj:(x-2*ls.length)/2<(aF ls).length:=by unfold nD at Az;omega
   have tE:=apy ok hF hj;have lP:=ad5 ok hj;have lF:=ad4 ok hj;have FV:¬((x:Int)<((2*ls.length:Nat):Int)):=aa;have ws:=WB (a:=x) (b:=2*ls.length) aa aa;have wq:=wrap_small (n:=(x-2*ls.length)/2) aa;have w2:=GV (a:=(aF ls).length) aa aa;have OJ:((((x-2*ls.length)/2:Nat):Int)==(((aF ls).length-1:Nat):Int))=decide ((x-2*ls.length)/2+1=(aF ls).length):=by
    by_cases h:(x-2*ls.length)/2+1=(aF ls).length
    .rw[decide_eq_true h];simp;omega
    rw[decide_eq_false h];simp;omega
   have nA:(f.add F ls x).outer=(f.outer||decide ((x-2*ls.length)/2+1=(aF ls).length)):=by unfold Fc.add;rw[if_neg xz]
   have Lu:(f.add F ls x).ij=f.ij:=by unfold Fc.add;rw[if_neg xz]
   have LJ:(f.add F ls x).dp=f.dp:=by unfold Fc.add;rw[if_neg xz]
   have Gb:(f.add F ls x).places=f.places++(if x%2=0 then tR F ls ((x-2*ls.length)/2) else (tR F ls ((x-2*ls.length)/2)).reverse):=by unfold Fc.add;rw[if_neg xz]
   have LX:(f.add F ls x).xh=f.xh++(if x%2=0 then CM F ls ((x-2*ls.length)/2) else (CM F ls ((x-2*ls.length)/2)).reverse):=by unfold Fc.add;rw[if_neg xz]
   generalize f.add F ls x=f' at nA Lu LJ Gb LX hq Ef;have lY:S.lone 6656640128=false:=ah;have sc1:∀l:List (Nat×Nat),((oD l).all fun e=>e.all PV.scalar)=true:=fun l=>by simp[PV.scalar]
   have sc2:∀l:List Nat,((nP l).all fun e=>e.all PV.scalar)=true:=fun l=>by simp[PV.scalar]
   have hnP:∀l:List (Nat×Nat),∀e∈oD l,e.length=2/\ ∀v∈e,v.norm=v:=fun l e he=>by obtain⟨a,_,rfl⟩:=dQ.1 he;exact⟨rfl,fun v hv=>by simp at hv;rcases hv with rfl|rfl<;>rfl⟩
   have hnF:∀l:List Nat,∀e∈nP l,e.length=1/\ ∀v∈e,v.norm=v:=fun l e he=>by obtain⟨a,_,rfl⟩:=dQ.1 he;exact⟨rfl,fun v hv=>by simp at hv;rcases hv with rfl;rfl⟩
   have rY:S.shared 124=true:=ah;have shI:S.shared 125=true:=ah;have mq:(gO.set x true).take (2*ls.length)=gO.take (2*ls.length):=afp aa;generalize tR F ls ((x-2*ls.length)/2)=PP at*;generalize CM F ls ((x-2*ls.length)/2)=FF at*;simp only[go_sem,i104_l1,h0,h9,jD,m2,FV,ws,wq,ez,fE,s123];refine ajV (by simp[kr1,kr2]) tE lY (sc1 _) (sc2 _) fun c e bK hc he hb=>?_;by_cases dY:x%2=0
   .have As:((x:Int).tmod 2==1)=false:=by rw[jy,dY];rfl
    rw[if_pos dY] at Gb LX;have hP:=hc;have hE:=he;have Cg:∀i,i≠6656640128->i≠6656640129->bK i=aj i:=hb;have bFN:=(Cg 6656128448 ae ae).trans hB.bF;simp only[go_sem,ez,As,bFN,fK,jD,kF];obtain⟨rP,hxP,Gf⟩:=hP.elems;refine Fz (site:=6656896192) (id:=6656896192) (bytes:=16) (by rcases Gf with rfl|rfl<;>simp[kp,kr1]) (hB.gp.of_eq (Cg _ ae ae)) hxP hP.ie (by simp only[cM];omega) fun c2 je r1 u1 qI kI jv=>?_
    have Fs:=(kI 6656128448 ae ae).trans bFN;simp only[go_sem,Fs,fK,kF];obtain⟨rE,hxE,Ge⟩:=(hE.of_eq (kI _ ae ae)).elems;refine Fz (site:=6656896448) (id:=6656896448) (bytes:=8) (by rcases Ge with rfl|rfl<;>simp[kf,kr2]) (hB.gf.of_eq ((kI _ ae ae).trans (Cg _ ae ae))) hxE hE.ie (by simp only[cM];omega) fun c3 BK r2 u2 Ly DW tF=>?_
    have BH:=(DW 6656128448 ae ae).trans Fs;have dy:∀i,i≠6656640128->i≠6656640129->i≠6656896192->i≠6656896448->BK i=aj i:=fun i a b c d=>(DW i d d).trans ((kI i c c).trans (Cg i a b));have Lx:grown 6656896192 CN 2 (oD f'.places) (.one c2) BK:=by rw[Gb,Jo];exact qI.of_eq (DW _ ae ae)
    have Lz:grown 6656896448 3 1 (nP f'.xh) (.one c3) BK:=by rw[LX,I9];exact Ly
    clear qI Ly;cases ho:f.outer with
    |true=>
     rw[ho] at BH;simp only[go_sem,BH,h0,fK,jD,kF,s89,FJ pt];refine⟨?_,?_⟩
     .rcases Gf with rfl|rfl<;>rcases Ge with rfl|rfl<;>rcases jv with ⟨rfl,rfl⟩|⟨rfl,rfl⟩|⟨rfl,rfl⟩<;>rcases tF with ⟨rfl,rfl⟩|⟨rfl,rfl⟩|⟨rfl,rfl⟩<;>kernel_rfl
     refine ih (k+1) (aV ls x) (gO.set x true) f' _ _ cd c2 c3 ?_ ?_ ?_ ?_ ?_ ?_ ?_ ?_ (by rw[qX];exact DR) (Ni ok Az) cQ aa aa Ef ?_
     .simp only[go_sem,h0]
     .simp only[go_sem,h2]
     .simp only[go_sem,h8]
     .simp only[go_sem,h9]
     .simp only[go_sem,eQ]
     .simp only[go_sem,fK]
     .simp only[go_sem]
     .rw[mq];refine⟨?_,?_,?_,?_,?_,?_,?_⟩
      .exact(aS (nSi rfl).symm).trans ((aS (nSi rfl).symm).trans ((aS (nSi rfl).symm).trans ((dy _ (nSi rfl).symm (nSi rfl).symm (nSi rfl).symm (nSi rfl).symm).trans hB.bS)))
      .exact(aS (nBi rfl).symm).trans ((aS (nBi rfl).symm).trans ((aS (nBi rfl).symm).trans ((dy _ (nBi rfl).symm (nBi rfl).symm (nBi rfl).symm (nBi rfl).symm).trans hB.bB)))
      .exact(aS ae).trans ((aS ae).trans ((aS ae).trans ((dy _ ae ae ae ae).trans hB.b8)))
      .rw[wM,Lu,nA,ho];rfl
      .rw[LJ];exact hB.gd.of_eq ((aS ae).trans ((aS ae).trans ((aS ae).trans (dy _ ae ae ae ae))))
      .exact Lx.of_eq ((aS ae).trans ((aS ae).trans (aS ae)))
      exact Lz.of_eq ((aS ae).trans ((aS ae).trans (aS ae)))
     intro aC ao vM nj vN q8 xV tC dd;refine hq aC ao vM nj vN (by rw[q8];simp only[go_sem]) (by rw[xV];simp only[go_sem]) tC fun id hn=>?_;have a:∀y,rO y->id≠y:=fun y hy e=>hn (.inl (e▸hy));exact(dd id hn).trans ((aS (a _ rfl)).trans ((aS (a _ rfl)).trans ((aS (a _ rfl)).trans (dy id (a _ rfl) (a _ rfl) (a _ rfl) (a _ rfl)))))
    |false=>
     rw[ho] at BH;simp only[go_sem,BH,h0,eQ,fK,jD,kF,w2,OJ,s89,FJ pt];refine⟨?_,?_⟩
     .rcases Gf with rfl|rfl<;>rcases Ge with rfl|rfl<;>rcases jv with ⟨rfl,rfl⟩|⟨rfl,rfl⟩|⟨rfl,rfl⟩<;>rcases tF with ⟨rfl,rfl⟩|⟨rfl,rfl⟩|⟨rfl,rfl⟩<;>kernel_rfl
     refine ih (k+1) (aV ls x) (gO.set x true) f' _ _ cd c2 c3 ?_ ?_ ?_ ?_ ?_ ?_ ?_ ?_ (by rw[qX];exact DR) (Ni ok Az) cQ aa aa Ef ?_
     .simp only[go_sem,h0]
     .simp only[go_sem,h2]
     .simp only[go_sem,h8]
     .simp only[go_sem,h9]
     .simp only[go_sem,eQ]
     .simp only[go_sem,fK]
     .simp only[go_sem]
     .rw[mq];refine⟨?_,?_,?_,?_,?_,?_,?_⟩
      .exact(aS (nSi rfl).symm).trans ((aS (nSi rfl).symm).trans ((aS (nSi rfl).symm).trans ((dy _ (nSi rfl).symm (nSi rfl).symm (nSi rfl).symm (nSi rfl).symm).trans hB.bS)))
      .exact(aS (nBi rfl).symm).trans ((aS (nBi rfl).symm).trans ((aS (nBi rfl).symm).trans ((dy _ (nBi rfl).symm (nBi rfl).symm (nBi rfl).symm (nBi rfl).symm).trans hB.bB)))
      .exact(aS ae).trans ((aS ae).trans ((aS ae).trans ((dy _ ae ae ae ae).trans hB.b8)))
      .rw[wM,Lu,nA,ho];rfl
      .rw[LJ];exact hB.gd.of_eq ((aS ae).trans ((aS ae).trans ((aS ae).trans (dy _ ae ae ae ae))))
      .exact Lx.of_eq ((aS ae).trans ((aS ae).trans (aS ae)))
      exact Lz.of_eq ((aS ae).trans ((aS ae).trans (aS ae)))
     intro aC ao vM nj vN q8 xV tC dd;refine hq aC ao vM nj vN (by rw[q8];simp only[go_sem]) (by rw[xV];simp only[go_sem]) tC fun id hn=>?_;have a:∀y,rO y->id≠y:=fun y hy e=>hn (.inl (e▸hy));exact(dd id hn).trans ((aS (a _ rfl)).trans ((aS (a _ rfl)).trans ((aS (a _ rfl)).trans (dy id (a _ rfl) (a _ rfl) (a _ rfl) (a _ rfl)))))
   have As:((x:Int).tmod 2==1)=true:=by rw[jy,show x%2=1 by omega];rfl
   rw[if_neg dY] at Gb LX;simp only[go_sem,ez,As,jD,rY];refine aaz (f:=124) (fun o h=>apw o (by simp only[cM];omega) (hnP _) h) aqH hc kr1 f1 fun bh fG bj=>?_;simp only[go_sem,shI];refine aaz (f:=125) (fun o h=>apu o (by simp only[cM];omega) (hnF _) h) aqG (he.of_eq (bj _ ae)) kr2 f2 fun gT he1 hJ=>?_;have hP:grown 6656640128 CN 2 (oD PP.reverse) (.one c) gT:=by rw[oD,List.map_reverse];exact fG.of_eq (hJ _ ae)
   have hE:grown 6656640129 3 1 (nP FF.reverse) (.one e) gT:=by rw[nP,List.map_reverse];exact he1
   have Cg:∀i,i≠6656640128->i≠6656640129->gT i=aj i:=fun i a b=>(hJ i b).trans ((bj i a).trans (hb i a b));have bFN:=(Cg 6656128448 ae ae).trans hB.bF;simp only[go_sem,bFN,fK,kF];obtain⟨rP,hxP,Gf⟩:=hP.elems;refine Fz (site:=6656896192) (id:=6656896192) (bytes:=16) (by rcases Gf with rfl|rfl<;>simp[kp,kr1]) (hB.gp.of_eq (Cg _ ae ae)) hxP hP.ie (by simp only[cM,qW];omega) fun c2 je r1 u1 qI kI jv=>?_
   have Fs:=(kI 6656128448 ae ae).trans bFN;simp only[go_sem,Fs,fK,kF];obtain⟨rE,hxE,Ge⟩:=(hE.of_eq (kI _ ae ae)).elems;refine Fz (site:=6656896448) (id:=6656896448) (bytes:=8) (by rcases Ge with rfl|rfl<;>simp[kf,kr2]) (hB.gf.of_eq ((kI _ ae ae).trans (Cg _ ae ae))) hxE hE.ie (by simp only[cM,qW];omega) fun c3 BK r2 u2 Ly DW tF=>?_
   have BH:=(DW 6656128448 ae ae).trans Fs;have dy:∀i,i≠6656640128->i≠6656640129->i≠6656896192->i≠6656896448->BK i=aj i:=fun i a b c d=>(DW i d d).trans ((kI i c c).trans (Cg i a b));have Lx:grown 6656896192 CN 2 (oD f'.places) (.one c2) BK:=by rw[Gb,Jo];exact qI.of_eq (DW _ ae ae)
   have Lz:grown 6656896448 3 1 (nP f'.xh) (.one c3) BK:=by rw[LX,I9];exact Ly
   clear qI Ly;cases ho:f.outer with
   |true=>
    rw[ho] at BH;simp only[go_sem,BH,h0,fK,jD,kF,s89,FJ pt];refine⟨?_,?_⟩
    .rcases Gf with rfl|rfl<;>rcases Ge with rfl|rfl<;>rcases jv with ⟨rfl,rfl⟩|⟨rfl,rfl⟩|⟨rfl,rfl⟩<;>rcases tF with ⟨rfl,rfl⟩|⟨rfl,rfl⟩|⟨rfl,rfl⟩<;>kernel_rfl
    refine ih (k+1) (aV ls x) (gO.set x true) f' _ _ cd c2 c3 ?_ ?_ ?_ ?_ ?_ ?_ ?_ ?_ (by rw[qX];exact DR) (Ni ok Az) cQ aa aa Ef ?_
    .simp only[go_sem,h0]
    .simp only[go_sem,h2]
    .simp only[go_sem,h8]
    .simp only[go_sem,h9]
    .simp only[go_sem,eQ]
    .simp only[go_sem,fK]
    .simp only[go_sem]
    .rw[mq];refine⟨?_,?_,?_,?_,?_,?_,?_⟩
     .exact(aS (nSi rfl).symm).trans ((aS (nSi rfl).symm).trans ((aS (nSi rfl).symm).trans ((dy _ (nSi rfl).symm (nSi rfl).symm (nSi rfl).symm (nSi rfl).symm).trans hB.bS)))
     .exact(aS (nBi rfl).symm).trans ((aS (nBi rfl).symm).trans ((aS (nBi rfl).symm).trans ((dy _ (nBi rfl).symm (nBi rfl).symm (nBi rfl).symm (nBi rfl).symm).trans hB.bB)))
     .exact(aS ae).trans ((aS ae).trans ((aS ae).trans ((dy _ ae ae ae ae).trans hB.b8)))
     .rw[wM,Lu,nA,ho];rfl
     .rw[LJ];exact hB.gd.of_eq ((aS ae).trans ((aS ae).trans ((aS ae).trans (dy _ ae ae ae ae))))
     .exact Lx.of_eq ((aS ae).trans ((aS ae).trans (aS ae)))
     exact Lz.of_eq ((aS ae).trans ((aS ae).trans (aS ae)))
    intro aC ao vM nj vN q8 xV tC dd;refine hq aC ao vM nj vN (by rw[q8];simp only[go_sem]) (by rw[xV];simp only[go_sem]) tC fun id hn=>?_;have a:∀y,rO y->id≠y:=fun y hy e=>hn (.inl (e▸hy));exact(dd id hn).trans ((aS (a _ rfl)).trans ((aS (a _ rfl)).trans ((aS (a _ rfl)).trans (dy id (a _ rfl) (a _ rfl) (a _ rfl) (a _ rfl)))))
   |false=>
    rw[ho] at BH;simp only[go_sem,BH,h0,eQ,fK,jD,kF,w2,OJ,s89,FJ pt];refine⟨?_,?_⟩
    .rcases Gf with rfl|rfl<;>rcases Ge with rfl|rfl<;>rcases jv with ⟨rfl,rfl⟩|⟨rfl,rfl⟩|⟨rfl,rfl⟩<;>rcases tF with ⟨rfl,rfl⟩|⟨rfl,rfl⟩|⟨rfl,rfl⟩<;>kernel_rfl
    refine ih (k+1) (aV ls x) (gO.set x true) f' _ _ cd c2 c3 ?_ ?_ ?_ ?_ ?_ ?_ ?_ ?_ (by rw[qX];exact DR) (Ni ok Az) cQ aa aa Ef ?_
    .simp only[go_sem,h0]
    .simp only[go_sem,h2]
    .simp only[go_sem,h8]
    .simp only[go_sem,h9]
    .simp only[go_sem,eQ]
    .simp only[go_sem,fK]
    .simp only[go_sem]
    .rw[mq];refine⟨?_,?_,?_,?_,?_,?_,?_⟩
     .exact(aS (nSi rfl).symm).trans ((aS (nSi rfl).symm).trans ((aS (nSi rfl).symm).trans ((dy _ (nSi rfl).symm (nSi rfl).symm (nSi rfl).symm (nSi rfl).symm).trans hB.bS)))
     .exact(aS (nBi rfl).symm).trans ((aS (nBi rfl).symm).trans ((aS (nBi rfl).symm).trans ((dy _ (nBi rfl).symm (nBi rfl).symm (nBi rfl).symm (nBi rfl).symm).trans hB.bB)))
     .exact(aS ae).trans ((aS ae).trans ((aS ae).trans ((dy _ ae ae ae ae).trans hB.b8)))
     .rw[wM,Lu,nA,ho];rfl
     .rw[LJ];exact hB.gd.of_eq ((aS ae).trans ((aS ae).trans ((aS ae).trans (dy _ ae ae ae ae))))
     .exact Lx.of_eq ((aS ae).trans ((aS ae).trans (aS ae)))
     exact Lz.of_eq ((aS ae).trans ((aS ae).trans (aS ae)))
    intro aC ao vM nj vN q8 xV tC dd;refine hq aC ao vM nj vN (by rw[q8];simp only[go_sem]) (by rw[xV];simp only[go_sem]) tC fun id hn=>?_;have a:∀y,rO y->id≠y:=fun y hy e=>hn (.inl (e▸hy));exact(dd id hn).trans ((aS (a _ rfl)).trans ((aS (a _ rfl)).trans ((aS (a _ rfl)).trans (dy id (a _ rfl) (a _ rfl) (a _ rfl) (a _ rfl)))))
structure dF (F:Nat) (ls:List Let):Prop where
 ok:fj F ls
 len:ls.length<=400
 cr:aw Let.aB ls<=200
 fing:F<=40
 ne:ls≠[]
 first:∃l,ls[0]?=some l/\l.aE=true
 even:aw Let.aE ls%2=0
 bad:∀l∈ls,dz F l=false
 chk:cU F ls=0
 nw:l5 ls=aw Let.aE ls+aw Let.aB ls/2+2
theorem xg{f:Int}(h:cU f ls=0)(aH:ls≠[]):∃F:Nat,f=(F:Int)/\dF F ls:=by
 have h0:=h;unfold cU at h;by_cases h1:400<ls.length\/200<aw Let.aB ls
 .rw[if_pos h1] at h;cases h
 rw[if_neg h1] at h;by_cases h2:f<0\/40<f
 .rw[if_pos h2] at h;cases h
 rw[if_neg h2,if_neg aH] at h;cases hv:lR f ls with
 |false=>rw[hv] at h;simp at h
 |true=>
  obtain⟨F,rfl⟩:=sZ (show 0<=f by omega);refine⟨F,rfl,?_⟩;unfold lR at hv;simp only[cX] at hv;obtain⟨⟨⟨v1,v2⟩,v3⟩,v4⟩:=hv;obtain⟨cD,lJ,fv⟩:=Vs.1 v3;have pY:∀l∈ls,dz F l=false:=fun l hl=>by simpa using G0.1 cD l hl
  have hg:qG F ls:=fun l hl hp=>((sR hp).1 (pY l hl)).1.1.1;obtain⟨g1,g2⟩:=(M5 hg).1 lJ;obtain⟨l0,vc⟩:=aL (iX.2 aH);rw[vc] at v1;exact⟨⟨aa,⟨g1,g2⟩,fv,fun l hl=>yz (pY l hl)⟩,aa,aa,aa,aH,⟨l0,vc,v1⟩,by simpa using v2,pY,h0,by simpa using v4⟩
def ZZ(F:Nat)(ls:List Let)(idS gS:Nat)(x:Nat)(gO:List Bool)(aj:aA)(v:V)(ao:aA):Prop:=
 ∃f cd cp cf,f=((fe (aV ls) (nD ls+1) x gO).1).foldl (Fc.add F ls) (Fc.new ls x)/\v=.agg [.p (.bool f.ij),cd,cp,cf,.p (.bool f.outer)]/\ao idS=(gS,some (.arr 4 1 (bP ((fe (aV ls) (nD ls+1) x gO).2.take (2*ls.length)))))/\
  grown 6656512256 3 1 (nP f.dp) (.one cd) ao/\grown 6656896192 CN 2 (oD f.places) (.one cp) ao/\grown 6656896448 3 1 (nP f.xh) (.one cf) ao/\Kept (fun id=>rO id\/id=idS) aj ao
theorem ajl{al:Al}{F:Nat}{ls:List Let}(ok:fj F ls)(hF:F<=1000)(okf:∀id,rO id->al.ok id=true){idS gS idB gB x:Nat}(oS:al.ok idS=true)(oB:al.ok idB=true)(nS:¬rO idS)(nB:¬rO idB)(nSB:idS≠idB)(f1:al.fs.contains 124=true)(f2:al.fs.contains 125=true){gO:List Bool}{aj:aA}
  (hx:x<2*ls.length) (DR:gO.length=nD ls) (cq:Kg (aV ls) (nD ls) gO) (hs:gO.getD x true=false) (bS:aj idS=(gS,some (.arr 4 1 (bP (gO.take (2*ls.length)))))) (bB:aj idB=(gB,some (.arr 4 1 (bP (BJ ls))))):
  ∃v ao,iK S 104 [.one (.p (lD F ls)),vi x,.one (.hsl idS gS 1 0 (2*ls.length)),.one (.hsl idB gB 1 0 ls.length)] al aj v ao/\ZZ F ls idS gS x gO aj v ao:=by
 have hl:=ok.hl;have gZ:(aF ls).length<=ls.length:=vL ls ls.length;have iR:nD ls<=4000000:=by unfold nD;omega
 have k0:al.ok 6656000000=true:=okf _ rfl;have kF:al.ok 6656128448=true:=okf _ rfl;have wq:=wrap_small (n:=x/2) aa;have vk:x/2<ls.length:=aa;have aks:=sv (ahg vk);have nSi:∀ {a:Nat},rO a->a≠idS:=fun h e=>nS (e▸h);have nBi:∀ {a:Nat},rO a->a≠idB:=fun h e=>nB (e▸h);have nB0:¬(idB=6656000000):=fun e=>nBi rfl e.symm
 have hul:=JQ gO;refine mF c104 (iv rfl) ?_;simp only[go_sem,i104,bB,nB0,k0,kF,oB,ez,fE,wq,vk,aks];refine⟨aG,?_⟩;refine ajj ok hF okf (idS:=idS) (gS:=gS) (idB:=idB) (gB:=gB) (g8:=(aj 6656000000).1+1) (gF:=(aj 6656128448).1+1) (d:=x) oS nS nB nSB f1 f2 hx (nD ls+1) 0 x gO (Fc.new ls x) _ _ (.p .nils) (.p .nils) (.p .nils) ?_ ?_ ?_ ?_ ?_ ?_ ?_ ?_ DR (by unfold nD;omega) (Inv.start cq hs) aa aa ⟨bN _,bG _,bG _⟩ ?_
 .simp only[go_sem]
 .simp only[go_sem]
 .simp only[go_sem]
 .simp only[go_sem]
 .simp only[go_sem]
 .simp only[go_sem]
 .simp only[go_sem]
 .refine⟨?_,?_,?_,?_,grown.nil,grown.nil,grown.nil⟩
  .simp only[aS (nSi (a:=6656000000) rfl).symm,aS (nSi (a:=6656128448) rfl).symm,bS]
  .simp only[aS (nBi (a:=6656000000) rfl).symm,aS (nBi (a:=6656128448) rfl).symm,bB]
  .simp only[go_sem]
  simp only[go_sem,Fc.new]
 intro aC ao vM nj vN q8 xV tC dd;simp only[go_sem] at q8 xV;have h8:=tC.b8;have hf:=tC.bF;simp only[go_sem,i104_r2,q8,xV,h8,hf,k0,kF];refine⟨_,vM,nj,vN,rfl,rfl,?_,?_,?_,?_,fun id hn=>?_⟩
 .exact(aS (nSi rfl).symm).trans tC.bS
 .exact tC.gd.of_eq (aS ae)
 .exact tC.gp.of_eq (aS ae)
 .exact tC.gf.of_eq (aS ae)
 have a:∀y,rO y->id≠y:=fun y hy e=>hn (.inl (e▸hy));refine(aS (a _ rfl)).trans ((dd id hn).trans ?_);simp only[aS (a 6656000000 rfl),aS (a 6656128448 rfl)]
theorem yO{s1 t1 z1:Nat}{es:List (List PV)}{c:C}{x:PV}{aj:aA}(h:grown s1 t1 z1 es (.one c) aj):iU aj (.tup [.one c,.one (.p x)])=some (.tup [.one (aT t1 z1 es),.one (.p x)]):=by obtain⟨c',o,hc,h2,h3⟩:=h.ke;cases hc;rcases h3 with rfl|rfl<;>simp[iU,tA,uX,nT,mT,h2,(show Go.Abs.ke aj (.p x)=some (.p x,[],[]) from rfl),apart,vv,sX,A9]
theorem VX{aj:aA}{id g g0 z o l ty sz:Nat}{es:List (List PV)}(h:aj id=(g0,some (.arr ty sz es))):jm aj (.one (.hsl id g z o l))=[id]:=(CQ h:jX aj 6 (.hsl id g z o l)=[id])
theorem aqD:(S.sites 104).contains 104=true:=ah
theorem aqE:(S.sites 104).contains 124=true:=ah
theorem aqF:(S.sites 104).contains 125=true:=ah
theorem afo{S:List Bool}{n k:Nat}{b:Bool}(hk:k<n)(hn:n<=S.length)(h:S.getD k true=b):(S.take n)[k]?=some b:=by rw[mW,if_pos hk];rw[dq] at h;obtain⟨c,hc⟩:=aL (show k<S.length by omega);rw[hc] at h ⊢;exact congrArg some h
theorem ajo(g:dF F ls):aI S 91 [dX F ls] (.tup [.one (aT zV 5 (tx (eV F ls))),.one (.p (.int .i64 0))]):=by
 have ok:=g.ok;have hl:=ok.hl;have hF:F<=1000:=by have:=g.fing;omega
 have gZ:(aF ls).length<=ls.length:=vL ls ls.length;have hlen:=g.len;have iR:nD ls<=4000000:=by unfold nD;omega
 have h2n:2*ls.length<=nD ls:=by unfold nD;omega
 have pr:=EM F ls hl;rw[CR g.chk,if_neg g.ne,tY] at pr;have pb:=ahi ok;have hm:=maps ok;have m2:=tX (a:=ls.length) aa;have lX:2*ls.length<=140737488355328:=aa;have vg:List.replicate (2*ls.length) [PV.bool false]=bP ((dG (aV ls) (nD ls) 0).2.take (2*ls.length)):=by show _=bP ((List.replicate (nD ls) false).take (2*ls.length));rw[List.take_replicate,zH h2n];simp
 have hLB:∀aj:aA,land aj [] 5824384064 ((RV.one (.own 4 1 (bP (BJ ls)))).gK (S.lone 5824384064))=some (.one (.hsl 5824384064 ((aj 5824384064).1+1) 1 0 ls.length),[(5824384064,((aj 5824384064).1+1,some (.arr 4 1 (bP (BJ ls)))))]):=by intro aj;rw[show S.lone 5824384064=false by kernel_rfl];show some (V.one (.hsl 5824384064 ((aj 5824384064).1+1) 1 0 (bP (BJ ls)).length),_)=_;rw[show(bP (BJ ls)).length=ls.length by simp[uf]];rfl
 have jk:S.shared 104=true:=ah;refine aZ c91 ?_;simp only[go_sem,i91,s19,cJ pr fL,s103,cJ pb (hLB _),m2,lX,vg];refine cV (fun k ak aj=>ak 4=.one (.p (lD F ls))/\ak 7=.one (.hsl 5824320448 1 1 0 (2*ls.length))/\ak 8=.one (.hsl 5824384064 1 1 0 ls.length)/\ak 29=vi ((2*ls.length:Nat):Int)/\ak 30=vi k/\
   aj 5824320448=(1,some (.arr 4 1 (bP ((dG (aV ls) (nD ls) k).2.take (2*ls.length)))))/\aj 5824384064=(1,some (.arr 4 1 (bP (BJ ls))))/\
   ∃vo,ak 6=.one vo/\grown 5824704448 zV 5 (tx ((dG (aV ls) (nD ls) k).1.map (nv F ls))) (.one vo) aj) 0 (2*ls.length) (bG _) ?_ ?_
 .simp only[go_sem];first|exact⟨rfl,rfl,rfl,_,rfl,.inl ⟨rfl,rfl⟩⟩|exact⟨rfl,rfl,_,rfl,.inl ⟨rfl,rfl⟩⟩|exact⟨rfl,_,rfl,.inl ⟨rfl,rfl⟩⟩|exact⟨rfl,rfl,rfl,rfl,_,rfl,.inl ⟨rfl,rfl⟩⟩
 rintro k ak aj hk ⟨h4,h7,h8,h29,h30,bS,bB,vo,h6,go⟩
 by_cases ay:k<2*ls.length
 .have aJ:((k:Int)<((2*ls.length:Nat):Int)):=aa;have w1:=cn (n:=k) aa;obtain⟨cq,_⟩:=QH hm k aa;have UF:=GU (aV ls) (nD ls) k;have Em:=Nn (aV ls) (nD ls) k;have cQ:=ya (aV ls) (nD ls) k;generalize hw:dG (aV ls) (nD ls) k=st at*;obtain⟨o,gO⟩:=st;simp only at cq UF Em bS go;unfold uL at cQ;cases hs:gO.getD k true with
  |true=>simp only[hs,if_true] at cQ;have hb:=sv (afo ay aa hs);simp only[go_sem,i91_l1,h4,h6,h7,h8,h29,h30,bS,bB,ay,aJ,hb,w1,cQ];exact⟨vo,rfl,go⟩
  |false=>
   simp only[hs,dL,if_false,UF] at cQ;have hb:=sv (afo ay aa hs);obtain⟨t,ht⟩:=afF (aV ls) (k:=nD ls) hs;have xF:((fe (aV ls) (nD ls+1) k gO).1).foldl (Fc.add F ls) (Fc.new ls k)=nv F ls (fe (aV ls) (nD ls+1) k gO).1:=by unfold nv;rw[ht];rfl
   have eF:=ajk (F:=F) (t:=t) ay;rw[<- ht] at eF;simp only[go_sem,i91_l1,h4,h6,h7,h8,h29,h30,bS,bB,ay,aJ,hb,jk];have abl:jm aj (.one (.hsl 5824320448 1 1 0 (2*ls.length)))=[5824320448]:=VX bS;have Mo:jm aj (.one (.hsl 5824384064 1 1 0 ls.length))=[5824384064]:=VX bB;refine rC (P:=ZZ F ls 5824320448 1 k gO aj) za (ajl ok hF (fun id h=>uR (by rw[h];exact aqD)) (se ?_) (se ?_) ae ae ae ?_ ?_ ay UF cq hs bS bB) ?_
   .simp only[dS,l8,abl,Mo];simp
   .simp only[dS,l8,abl,Mo];simp
   .exact aqE
   .exact aqF
   rintro v bK ⟨f,cd,cp,cf,hf,rfl,bS1,gd,gp,gf,dd⟩
   rw[xF] at hf;rw[<- hf] at eF;have Kv:=(dd 5824384064 ae).trans bB;have go1:=go.of_eq (dd 5824704448 ae);have nA:tx (o.map (nv F ls))++[f.ps]=tx ((dG (aV ls) (nD ls) (k+1)).1.map (nv F ls)):=by rw[cQ,hf];simp
   have hS2:(dG (aV ls) (nD ls) (k+1)).2=(fe (aV ls) (nD ls+1) k gO).2:=by rw[cQ]
   have alh:(tx (o.map (nv F ls))).length<=k:=by simpa using Em
   generalize tx (o.map (nv F ls))=outs at go1 nA alh;have gd0:=gd;rcases gd with ⟨e,_⟩|⟨_,gg,e,hbd⟩
   .simp at e;exact absurd e eF
   cases e;simp only[go_sem];rw[cM] at gd0;obtain⟨fr,hx,Ae,FZ⟩:=aiK (aj:=dK bK 5824704384 ((bK 5824704384).1+1,some (.iN zV 5 [[.p (.bool f.ij),.hsl 6656512256 gg 1 0 f.dp.length,cp,cf,.p (.bool f.outer)]]))) (s:=5824704384) wM (gd0.of_eq (aS ae)) (gp.of_eq (aS ae)) (gf.of_eq (aS ae));have nf:∀i,i≠6656512256->i≠6656896192->i≠6656896448->i∉fr:=fun i a b c h=>by
    rcases FZ i h with h|h|h
    .exact a h
    .exact b h
    exact c h
   refine ajS (site:=5824704448) (id:=5824704448) (bytes:=88) (go1.of_eq (aS ae)) hx Ae (nf _ ae ae ae) (nf _ ae ae ae) (.inl rfl) (by simp only[dh,ff];omega) fun c bh hc bj=>?_;have BS':=(bj 5824320448 ae ae (nf _ ae ae ae)).trans ((aS ae).trans bS1);have BB':=(bj 5824384064 ae ae (nf _ ae ae ae)).trans ((aS ae).trans Kv);simp only[go_sem,h4,h6,h7,h8,h29,h30,BS',BB',w1,ay,hS2];refine⟨c,rfl,?_⟩;rw[<- nA];exact hc
 have:k=2*ls.length:=aa;subst this;simp only[go_sem,i91_l1,i91_r2,h6,h29,h30,eE];have:=Ww hm (nD ls) h2n (bN _);unfold eV iJ;rw[this];exact yO go
structure Pc where
 l:Let
 d:Bool
def Pc.ps(p:Pc):List PV:=[.int .i64 p.l.kind,.int .i64 p.l.gate,.int .i64 p.l.aD,.int .i64 p.l.id,.int .i64 p.l.sign,.bool p.l.over,.bool p.d]
abbrev dN(o:List Pc):List (List PV):=o.map Pc.ps
abbrev my:Nat:=149
def lh:Let:=⟨0,0,0,0,0,false⟩
def pieces(ls:List Let):List Pc:=(List.range ls.length).map fun i=>⟨ls.getD i lh,gV ls i⟩
theorem fW(ls:List Let):(pieces ls).length=ls.length:=by simp[pieces]
theorem rV{i:Nat}{l:Let}(h:ls[i]?=some l):(pieces ls)[i]?=some ⟨l,gV ls i⟩:=by have:=(aW.1 h).1;simp only[pieces,fZ,r4 this,ng,dq,h,nc]
theorem jW{o:List Pc}{k:Nat}{p:Pc}(h:o[k]?=some p):(dN o)[k]?=some p.ps:=by simp[h]
def oF(L:List Nat)(ds:List Nat)(v:Nat):List Nat:=ds.foldl (fun L d=>L.set d v) L
def qm:List Fc->Nat->List Nat->List Nat
 |[],_,L=>L
 |f::r,j,L=>qm r (j+1) (oF L f.dp j)
def ow(F:Nat)(ls:List Let):List Nat:=qm (eV F ls) 0 (List.replicate (2*ls.length) 0)
theorem M8(L ds:List Nat)(v:Nat):(oF L ds v).length=L.length:=by
 induction ds generalizing L with
 |nil=>rfl
 |cons d ds ih=>show(oF (L.set d v) ds v).length=_;rw[ih];simp
theorem apQ(L a b:List Nat)(v:Nat):oF L (a++b) v=oF (oF L a v) b v:=by simp[oF]
theorem Pr(fs:List Fc):∀(j:Nat) (L:List Nat),(qm fs j L).length=L.length:=by
 induction fs with
 |nil=>intro j L;rfl
 |cons f r ih=>intro j L;show(qm r (j+1) _).length=_;rw[ih,M8]
theorem amt(a:List Fc)(f:Fc):∀(j:Nat) (L:List Nat),qm (a++[f]) j L=oF (qm a j L) f.dp (j+a.length):=by
 induction a with
 |nil=>intro j L;rfl
 |cons g r ih=>intro j L;show qm (r++[f]) (j+1) _=_;rw[ih];simp[qm];congr 1;omega
theorem agj(F:Nat)(ls:List Let):∀(w:List Nat) (f:Fc),(w.foldl (Fc.add F ls) f).dp=f.dp++w.filter (fun x=>decide (x<2*ls.length)):=by
 intro w
 induction w with
 |nil=>intro f;simp
 |cons x w ih=>
  intro f;rw[Dd,ih];unfold Fc.add;by_cases h:x<2*ls.length
  .rw[if_pos h,List.filter_cons_of_pos (by simpa using h)];simp
  rw[if_neg h,List.filter_cons_of_neg (by simpa using h)]
theorem HY(F:Nat)(ls:List Let)(w:List Nat):(nv F ls w).dp=w.filter (fun x=>decide (x<2*ls.length)):=by unfold nv;rw[agj];rfl
theorem Ub{f:Fc}(h:f∈eV F ls):∀d∈f.dp,d<2*ls.length:=by
 obtain⟨w,_,rfl⟩:=dQ.1 h;intro d hd;rw[HY] at hd
 simpa using (vG.1 hd).2
theorem Uc(ok:fj F ls){f:Fc}(h:f∈eV F ls):f.dp.length<=nD ls:=by obtain⟨w,hw,rfl⟩:=dQ.1 h;rw[HY];exact mD (List.length_filter_le _ _) (No ok w hw).2.1
theorem ZY(F:Nat)(ls:List Let):(eV F ls).length=l5 ls:=by simp[eV,l5]
theorem Ud{o:List Fc}{k:Nat}{p:Fc}(h:o[k]?=some p):(tx o)[k]?=some p.ps:=by simp[h]
abbrev eI(F:Nat)(ls:List Let):PV:=.box [.int .i64 F,.sl (dN (pieces ls)),.sl (tx (eV F ls)),.sl (nP (ow F ls)),.int .i64 (aw Let.aE ls:Nat),.int .i64 ((aw Let.aB ls/2:Nat):Int),.sl (nP (counts ls F))]
abbrev Kz(F:Nat)(ls:List Let)(pc cf:C):List C:=[.p (.int .i64 F),pc,cf,.hsl 4736256448 1 1 0 (2*ls.length),.p (.int .i64 (aw Let.aE ls:Nat)),.p (.int .i64 ((aw Let.aB ls/2:Nat):Int)),.hsl 4736256960 1 1 0 (F+1)]
theorem anP{F:Nat}{ls:List Let}(g:dF F ls){pc cf:C}{ak:Env}{aj:aA}{Q:dA}(h4:ak 4=.one cf)(h6:ak 6=.one (.aY 4736257088 1 0))
  (bB:aj 4736257088=(1,some (.var (Kz F ls pc cf)))) (bL:aj 4736256448=(1,some (.arr 3 1 (nP (List.replicate (2*ls.length) 0))))) (bC:aj 4736256960=(1,some (.arr 3 1 (nP (counts ls F))))) (gp:grown 4736896448 my 7 (dN (pieces ls)) (.one pc) aj) (gf:grown 4736064064 zV 5 (tx (eV F ls)) (.one cf) aj)
  (hq:∀aC ao,aC 6=ak 6->ao 4736257088=(1,some (.var (Kz F ls pc cf)))->ao 4736256448=(1,some (.arr 3 1 (nP (ow F ls))))->ao 4736256960=(1,some (.arr 3 1 (nP (counts ls F))))->grown 4736896448 my 7 (dN (pieces ls)) (.one pc) ao->grown 4736064064 zV 5 (tx (eV F ls)) (.one cf) ao->W S .all i74_r5 Q aC ao):
  W S .all i74_r6 Q ak aj:=by
 have ok:=g.ok;have hl:=ok.hl;have hlen:=g.len;have gZ:(aF ls).length<=ls.length:=vL ls ls.length;have iR:nD ls<=4000000:=by unfold nD;omega
 have xE:(eV F ls).length<=nD ls:=by rw[eV,cM];exact Nn (aV ls) (nD ls) _
 obtain⟨g0,Ux⟩:∃gg,cf=.hsl 4736064064 gg 5 0 (eV F ls).length:=by
  rcases gf with ⟨e,_⟩|⟨_,gg,e,hb⟩
  .have h1:(eV F ls).length=0:=by simpa using congrArg List.length e
   rw[ZY,g.nw] at h1;omega
  cases e;exact⟨gg,by rw[cM]⟩
 have uZ:=h4;rw[Ux] at uZ;simp only[go_sem,i74_r6,uZ];refine cV (fun k aC ao=>aC 6=ak 6/\aC 78=.one cf/\aC 79=vi (eV F ls).length/\aC 80=vi k/\ao 4736257088=(1,some (.var (Kz F ls pc cf)))/\ao 4736256448=(1,some (.arr 3 1 (nP (qm ((eV F ls).take k) 0 (List.replicate (2*ls.length) 0)))))/\ao 4736256960=(1,some (.arr 3 1 (nP (counts ls F))))/\
   grown 4736896448 my 7 (dN (pieces ls)) (.one pc) ao/\grown 4736064064 zV 5 (tx (eV F ls)) (.one cf) ao) 0 (eV F ls).length (bG _) ?_ ?_
 .simp only[go_sem,bB,bL,bC,qm,Ux];exact⟨rfl,gp,by first|exact gf|(rw[<- Ux];exact gf)⟩
 rintro k aC ao hk ⟨q6,h78,h79,h80,bB,bL,bC,gp,gf⟩
 rw[h6] at q6;by_cases ay:k<(eV F ls).length
 .have aJ:((k:Int)<((eV F ls).length:Int)):=aa;obtain⟨f,hf⟩:=aL ay;have F0:=Ud hf;have oY:=aU hf;have hdl:=Uc ok oY;have hdd:=Ub oY;have w1:=cn (n:=k) aa;have mq:qm ((eV F ls).take (k+1)) 0 (List.replicate (2*ls.length) 0)=oF (qm ((eV F ls).take k) 0 (List.replicate (2*ls.length) 0)) f.dp k:=by
   rw[pP,hf];show qm (_++[f]) 0 _=_;rw[amt,iu,zH aa,kU]
  have hLl:(qm ((eV F ls).take k) 0 (List.replicate (2*ls.length) 0)).length=2*ls.length:=by rw[Pr,List.length_replicate]
  generalize qm ((eV F ls).take k) 0 (List.replicate (2*ls.length) 0)=L at bL mq hLl;obtain⟨gg,u4,bf⟩:∃gg,cf=.hsl 4736064064 gg 5 0 (tx (eV F ls)).length/\ao 4736064064=(gg,some (.arr zV 5 (tx (eV F ls)))):=by
   rcases gf with ⟨e,_⟩|⟨_,gg,e,hb⟩
   .have:(eV F ls).length=0:=by simpa using congrArg List.length e
    omega
   cases e;exact⟨gg,rfl,hb⟩
  rw[cM] at u4;have Ut:=h78;rw[u4] at Ut;simp only[go_sem,i74_l4,Ut,h79,h80,bf,F0,Fc.ps,ay,aJ];refine cV (fun j cT bh=>cT 6=.one (.aY 4736257088 1 0)/\cT 11=vi k/\cT 78=.one cf/\cT 79=vi (eV F ls).length/\cT 80=vi k/\cT 86=.one (.p (.sl (nP f.dp)))/\cT 87=vi f.dp.length/\cT 88=vi j/\
   bh 4736257088=(1,some (.var (Kz F ls pc cf)))/\bh 4736256448=(1,some (.arr 3 1 (nP (oF L (f.dp.take j) k))))/\bh 4736256960=(1,some (.arr 3 1 (nP (counts ls F))))/\grown 4736896448 my 7 (dN (pieces ls)) (.one pc) bh/\grown 4736064064 zV 5 (tx (eV F ls)) (.one cf) bh) 0 f.dp.length (bG _) ?_ ?_
  .simp only[go_sem,q6,u4,Ut,h79,h80,bB,bL,bC,oF,List.foldl_nil];refine⟨rfl,gp.of_eq (aS ae),?_⟩;first|exact gf.of_eq (aS ae)|(rw[<- u4];exact gf.of_eq (aS ae))
  rintro j cT bh hj ⟨p6,p11,p78,p79,p80,p86,p87,p88,cB,cL,cC,cp,cg⟩
  by_cases sH:j<f.dp.length
  .have F6:((j:Int)<(f.dp.length:Int)):=aa;obtain⟨d,hd⟩:=aL sH;have kY:=j9 hd;have hdb:=hdd d (aU hd);have w2:=cn (n:=j) aa;have ia:(oF L (f.dp.take j) k).set d k=oF L (f.dp.take (j+1)) k:=by rw[pP,hd,apQ];rfl
   have eG:=Ja (oF L (f.dp.take j) k) d k;rw[ia] at eG;obtain⟨v0,hv0⟩:=aL (ls:=oF L (f.dp.take j) k) (k:=d) (by rw[M8,hLl];exact hdb);have hv:=j9 hv0;simp only[go_sem,i74_l2,p6,p11,p78,p79,p80,p86,p87,p88,cB,cL,cC,sH,F6,kY,hdb,hv,eG,w2];exact⟨cp.of_eq (aS ae),cg.of_eq (aS ae)⟩
  have:j=f.dp.length:=aa;subst this;rw[kS,<- mq] at cL;simp only[go_sem,i74_l2,i74_r3,p6,p78,p79,p80,p87,p88,cB,cL,cC,eE,w1,ay,h6];exact⟨cp,cg⟩
 have:k=(eV F ls).length:=aa;subst this;rw[kS] at bL;simp only[go_sem,i74_l4,h79,h80,eE];exact hq _ _ (by simp only[go_sem,q6,h6]) bB bL bC gp gf
theorem adO(g:dF F ls):aI S 74 [dX F ls] (zA (eI F ls) (.int .i64 0)):=by
 have ok:=g.ok;have hl:=ok.hl;have hlen:=g.len;have yS:=g.fing;have pf:=ajo g;have pps:=VL F ls hl;have pcs:=Yk F ls hl;have lo:S.lone 4736064064=false:=ah;have m2:=tX (a:=ls.length) aa;have wF:=cn (n:=F) aa;have r1:2*ls.length*8<=140737488355328:=aa;have r2:(F+1)*8<=140737488355328:=aa;have e1:List.replicate (2*ls.length) [PV.int .i64 0]=nP (List.replicate (2*ls.length) 0):=af;have e2:List.replicate (F+1) [PV.int .i64 0]=nP (rz ls F 0):=by rw[R0];simp
 refine aZ c74 ?_;simp only[go_sem,i74,s91];refine aaw pf lo fun cf nN u4 nU=>?_;have Kt:=nU 4736000000 ae;simp only[go_sem] at Kt;simp only[go_sem,Kt,m2,wF,r1,r2,s88,s92,gU pps,gU pcs,e1,e2];refine⟨aG,?_⟩;have hz:∀j,j≠4736064064->j≠4736000000->nN j=(0,none):=fun j a b=>(nU j a).trans (aS b);have z1:=hz 4736256448 ae ae;have z2:=hz 4736256960 ae ae;have z3:=hz 4736257088 ae ae;refine cV (fun k ak aj=>ak 4=.one cf/\ak 6=.one (.aY 4736257088 1 0)/\ak 7=vb (dn ls k)/\ak 42=.one (.p (cF ls))/\ak 43=vi ls.length/\ak 44=vi k/\
   aj 4736256448=(1,some (.arr 3 1 (nP (List.replicate (2*ls.length) 0))))/\aj 4736256960=(1,some (.arr 3 1 (nP (rz ls F k))))/\
   ∃pc,aj 4736257088=(1,some (.var (Kz F ls pc cf)))/\grown 4736896448 my 7 (dN ((pieces ls).take k)) (.one pc) aj/\grown 4736064064 zV 5 (tx (eV F ls)) (.one cf) aj) 0 ls.length (bG _) ?_ ?_
 .simp only[go_sem,z1,z2,z3];refine⟨rfl,rfl,.p .nils,rfl,.inl ⟨rfl,rfl⟩,u4.of_eq ?_⟩;simp only[go_sem]
 rintro k ak aj hk ⟨h4,h6,h7,tB,Lo,Lp,bL,bC,pc,bB,gp,gf⟩
 by_cases ay:k<ls.length
 .obtain⟨l,cK⟩:=aL ay;have hi:=iI cK;have aJ:((k:Int)<(ls.length:Int)):=aa;have w1:=cn (n:=k) aa;have wm:=rV cK;cases hp:(l.kind==1) with
  |false=>
   have jh:l.aE=false:=hp;have kY:gV ls k=false:=by simp[gV,cK,jh]
   rw[kY] at wm;have hd:=KO cK jh;have xy:=Yg (F:=F) cK jh;have mq:dN ((pieces ls).take (k+1))=dN ((pieces ls).take k)++[(Pc.mk l false).ps]:=by rw[pP,wm];simp
   simp only[go_sem,i74_l1,h6,tB,Lo,Lp,hi,Let.ps,aJ,hp,bB];refine zR (site:=4736896448) (id:=4736896448) (bytes:=56) (xs:=[(Pc.mk l false).ps]) (rd:=[4736896384]) (gp.of_eq (by simp only[aN,Nat.reduceEqDiff,if_false])) (by simp[fF,aN,Pc.ps]) (.inl rfl) (by simp only[cM,dh,ff,iu,fW];omega) fun c bK r u hc hb hr=>?_;have kZ:∀i,i≠4736896448->i≠4736896384->i≠4736576128->i≠4736512128->i≠4736256960->bK i=aj i:=fun i a b c d e=>(hb i a a).trans (by simp only[aN,if_neg b,if_neg c,if_neg d])
   have LG:=(hb 4736256960 ae ae);simp only[aN,Nat.reduceEqDiff,if_false,bC] at LG;have Kv:=(kZ 4736257088 ae ae ae ae ae).trans bB;have bL1:=(kZ 4736256448 ae ae ae ae ae).trans bL;simp only[go_sem,h4,h6,h7,tB,Lo,Lp,Kv,bL1,LG,w1,hd,xy,ay];refine⟨?_,?_⟩
   .rcases hr with ⟨rfl,rfl⟩|⟨rfl,rfl⟩|⟨rfl,rfl⟩<;>kernel_rfl
   refine⟨c,rfl,?_,?_⟩
   .rw[mq];exact hc.of_eq (aS ae)
   exact gf.of_eq ((aS ae).trans (kZ _ ae ae ae ae ae))
  |true=>
   have jh:l.aE=true:=hp;have kY:gV ls k=dn ls k:=by simp[gV,cK,jh]
   rw[kY] at wm;have hd:=KN cK jh;have mq:dN ((pieces ls).take (k+1))=dN ((pieces ls).take k)++[(Pc.mk l (dn ls k)).ps]:=by rw[pP,wm];simp
   have yV:=ok.ax.fm l (aU cK) jh;obtain⟨G,hG⟩:=sZ yV.g0;have Ir:G<=F:=by have:=yV.g1;omega
   have FR:G<F+1:=aa;have vY:=j9 (Ye (ls:=ls) (k:=k) Ir);have cq:cg (ls.take k) G<=k:=yB _ _ _;have w2:=cn (n:=cg (ls.take k) G) aa;have s1:=Ja (rz ls F k) G (cg (ls.take k) G+1);rw[<- Yf cK jh hG] at s1;simp only[go_sem,i74_l1,h6,h7,tB,Lo,Lp,hi,Let.ps,aJ,hp,hG,bB,bC,vY,FR,w2,s1];refine⟨aG,?_⟩;refine zR (site:=4736896448) (id:=4736896448) (bytes:=56) (xs:=[(Pc.mk l (dn ls k)).ps]) (rd:=[4736896384]) (gp.of_eq (by simp only[aN,Nat.reduceEqDiff,if_false])) (by simp[fF,aN,Pc.ps,hG]) (.inl rfl) (by simp only[cM,dh,ff,iu,fW];omega) fun c bK r u hc hb hr=>?_
   have kZ:∀i,i≠4736896448->i≠4736896384->i≠4736576128->i≠4736512128->i≠4736256960->bK i=aj i:=fun i a b c d e=>(hb i a a).trans (by simp only[aN,if_neg b,if_neg c,if_neg d,if_neg e]);have LG:=(hb 4736256960 ae ae);simp only[aN,Nat.reduceEqDiff,if_false,if_true,bC] at LG;have Kv:=(kZ 4736257088 ae ae ae ae ae).trans bB;have bL1:=(kZ 4736256448 ae ae ae ae ae).trans bL;simp only[go_sem,h4,h6,h7,tB,Lo,Lp,Kv,bL1,LG,w1,hd,ay];refine⟨?_,?_⟩
   .rcases hr with ⟨rfl,rfl⟩|⟨rfl,rfl⟩|⟨rfl,rfl⟩<;>kernel_rfl
   refine⟨c,rfl,?_,?_⟩
   .rw[mq];exact hc.of_eq (aS ae)
   exact gf.of_eq ((aS ae).trans (kZ _ ae ae ae ae ae))
 have:k=ls.length:=aa;subst this;rw[gR (by rw[fW];exact bN _)] at gp;rw[RZ] at bC;simp only[go_sem,i74_l1,Lo,Lp,eE];refine anP g (pc:=pc) (cf:=cf) ?_ ?_ bB bL bC gp gf ?_
 .simp only[go_sem,h4]
 .simp only[go_sem,h6]
 intro aC ao q6 cB cL cC gp' gf';simp only[go_sem,h6] at q6;obtain⟨rp,np,_⟩:=gp'.We (n:=4);obtain⟨rf,nf,_⟩:=gf'.We (n:=4);have t1:List.take (2*ls.length) (nP (ow F ls))=nP (ow F ls):=gR (by simp[ow,Pr]);have t2:List.take (F+1) (nP (counts ls F))=nP (counts ls F):=gR (by simp[counts]);have n1:2*ls.length<=(ow F ls).length:=by simp[ow,Pr]
 have n2:F+1<=(counts ls F).length:=by simp[counts]
 simp only[go_sem,i74_r5,q6];simp only[go_sem,iU,tA,uX,nT,mT,ke,cB,cL,cC,np,nf,t1,t2,n1,n2];rfl
theorem vE{x:Int}(h1: -9223372036854775808<=x)(h2:x<=9223372036854775807):IntKind.i64.wrap x=x:=by
 have e:(2 ^ IntKind.i64.bits:Int)=18446744073709551616:=ae;have e2:(2 ^ (IntKind.i64.bits-1):Int)=9223372036854775808:=ae;unfold IntKind.wrap;simp only[e,e2];by_cases h:0<=x
 .have h3:x%18446744073709551616=x:=aa;rw[h3];have h4:¬x≥9223372036854775808:=aa;simp[h4]
 have h3:x%18446744073709551616=x+18446744073709551616:=aa;rw[h3];have h4:x+18446744073709551616≥9223372036854775808:=aa;have h5:IntKind.i64.signed=true:=rfl;simp[h4,h5]
theorem ars(l:List Pc):ie 7 (dN l)=true:=by simp[ie,Pc.ps]
theorem CU(l:List Pc):((dN l).all fun e=>e.all PV.scalar)=true:=by simp[Pc.ps,PV.scalar]
abbrev Ey(l x:List Pc)(k:Nat):List Pc:=l.take (k+1)++x++l.drop (k+1)
theorem ad3(a b:List Pc):dN (a++b)=dN a++dN b:=af
theorem ahV(p:Pc)(t:List Pc)(hl:(p::t).length<=1000000):aI S 131 [.one (.p (.sl (dN (p::t))))] (.one (aT my 7 (dN (p::t)))):=by
 have hs:=ars (p::t);have hr:(0+(dN (p::t)).length)*56<=room:=by unfold room;rw[cM];omega
 refine aZ c131 ?_;obtain⟨e0,es,hq⟩:∃e0 es,dN (p::t)=e0::es:=⟨_,_,rfl⟩;rw[hq] at hs hr ⊢;have aH:e0::es≠[]:=af;have rH:aT my 7 (e0::es)=.own my 7 (e0::es):=if_neg aH;rw[rH];unfold room at hr;simp only[kU,dh] at hr;simp only[ie,mB] at hs;simp only[go_sem,i131,fQ,ie];simp only[hs,hr,not_true_eq_false,if_true,if_false];simp only[go_sem];exact Jm wM rfl
def rY(g ab b:Int)(p:Pc):Pc:=if (p.l.kind==1)&&((p.l.gate==g)&&decide (ab<p.l.aD)) then {p with l:={p.l with aD:=p.l.aD+b}} else p
abbrev kn(l:List Pc)(g ab b:Int):List Pc:=l.map (rY g ab b)
def aeT(id:Nat)(es:List (List PV))(c:C)(aj:aA)(v:V)(ao:aA):Prop:=v=.tup []/\grown id my 7 es (.one c) ao/\Kept (· =id) aj ao
theorem apZ{al:Al}{aj:aA}{id:Nat}{l:List Pc}{c:C}{g ab b:Int}(o:l=[]\/al.ok id=true)(hl:l.length<=1000000)(hb: -100<=b/\b<=100)(hr:∀p∈l,-1000000<=p.l.aD/\p.l.aD<=1000000)(h:grown id my 7 (dN l) (.one c) aj):
  ∃v ao,iK S 129 [.one c,vi g,vi ab,vi b] al aj v ao/\aeT id (dN (kn l g ab b)) c aj v ao:=by
 refine mF c129 (iv rfl) ?_;rcases h with ⟨h1,h2⟩|⟨aH,gg,h2,hC⟩
 .cases h2;have hln:l=[]:=by simpa using h1
  subst hln;have hz:¬(((0:Nat):Int)<((0:Nat):Int)):=aa;simp only[go_sem,i129];refine cV (fun k ak ao=>k=0/\ak 10=vi ((0:Nat):Int)/\ak 11=vi ((0:Nat):Int)/\ao=aj) 0 0 (bN _) ?_ ?_
  .simp only[go_sem];exact rfl
  rintro k ak ao _ ⟨rfl,eQ,fK,rfl⟩
  simp only[go_sem,i129_l1,eQ,fK,hz];exact⟨rfl,.inl ⟨rfl,rfl⟩,fun _ _=>rfl⟩
 cases h2;have o:=o.resolve_left (by simpa using aH);simp only[go_sem,i129];refine cV (fun k ak ao=>ak 0=.one (.hsl id gg 7 0 l.length)/\ak 1=vi g/\ak 2=vi ab/\ak 3=vi b/\ak 10=vi l.length/\ak 11=vi k/\ao id=(gg,some (.arr my 7 (dN ((kn (l.take k) g ab b)++l.drop k))))/\Kept (· =id) aj ao) 0 l.length (bG _) ?_ ?_
 .simp only[go_sem,hC];refine⟨?_,?_⟩
  .simp[]
  exact Kept.refl _ _
 rintro k ak ao hk ⟨h0,h1,h2,h3,eQ,fK,hF,dd⟩
 by_cases ay:k<l.length
 .have aJ:((k:Int)<(l.length:Int)):=aa;obtain⟨p,hp⟩:=aL ay;have w1:=cn (n:=k) aa;obtain⟨r1,r2⟩:=hr p (aU hp);have wr:=vE (x:=p.l.aD+b) aa aa;have v7:l.drop k=p::l.drop (k+1):=by
   obtain⟨hh,rfl⟩:=aW.1 hp;exact List.drop_eq_getElem_cons hh
  have hlen:((kn (l.take k) g ab b)++l.drop k).length=l.length:=by simp[kn];omega
  have jP:((kn (l.take k) g ab b)++l.drop k)[k]?=some p:=by
   rw[Bt (by simp[kn];omega)];have:k-(kn (l.take k) g ab b).length=0:=by simp[kn];omega
   rw[this,v7];rfl
  have ia:((kn (l.take k) g ab b)++l.drop k).set k (rY g ab b p)=(kn (l.take (k+1)) g ab b)++l.drop (k+1):=by
   have e1:(kn (l.take k) g ab b).length=k:=by simp[kn];omega
   rw[List.set_append_right _ _ aa,e1,Nat.sub_self,v7,List.set_cons_zero,pP,hp];simp[kn]
  have iS:=jW jP;have Ek:dN (((kn (l.take k) g ab b)++l.drop k).set k (rY g ab b p))=(dN ((kn (l.take k) g ab b)++l.drop k)).set k (rY g ab b p).ps:=by simp[dN,List.map_set]
  rw[ia] at Ek;have Av:rY g ab b p=p->dN ((kn (l.take k) g ab b)++l.drop k)=dN ((kn (l.take (k+1)) g ab b)++l.drop (k+1)):=fun e=>by rw[Ek,e];obtain⟨hh,he⟩:=aW.1 iS;rw[<- he,List.set_getElem_self]
  generalize (kn (l.take k) g ab b)++l.drop k=m at hF jP iS Ek Av hlen;have oZ:k<(dN m).length:=by rw[cM];omega
  cases c1:(p.l.kind==1) with
  |false=>have e:=Av (by unfold rY;rw[c1];rfl);simp only[go_sem,i129_l1,h0,h1,h2,h3,eQ,fK,hF,iS,Pc.ps,ay,aJ,c1,w1,o];exact⟨by rw[e],dd⟩
  |true=>
   cases c2:(p.l.gate==g) with
   |false=>have e:=Av (by unfold rY;rw[c1,c2];rfl);simp only[go_sem,i129_l1,h0,h1,h2,h3,eQ,fK,hF,iS,Pc.ps,ay,aJ,c1,c2,w1,o];exact⟨by rw[e],dd⟩
   |true=>
    by_cases c3:ab<p.l.aD
    .have e:(rY g ab b p).ps=[.int .i64 p.l.kind,.int .i64 p.l.gate,.int .i64 (p.l.aD+b),.int .i64 p.l.id,.int .i64 p.l.sign,.bool p.l.over,.bool p.d]:=by unfold rY;rw[c1,c2,decide_eq_true c3];rfl
     rw[e] at Ek;simp only[go_sem,i129_l1,h0,h1,h2,h3,eQ,fK,hF,iS,Pc.ps,ay,aJ,c1,c2,c3,w1,wr,o];refine⟨?_,?_⟩
     .first|rw[Ek]|(rw[Ek];rfl)
     exact dd.dK rfl _
    have e:=Av (by unfold rY;rw[c1,c2,decide_eq_false c3];rfl);simp only[go_sem,i129_l1,h0,h1,h2,h3,eQ,fK,hF,iS,Pc.ps,ay,aJ,c1,c2,c3,w1,o];exact⟨by rw[e],dd⟩
 have:k=l.length:=aa;subst this;simp only[go_sem,i129_l1,eQ,fK,eE];refine⟨rfl,?_,dd⟩;rw[kS,Ka,kN] at hF;exact .inr ⟨by simpa using aH,gg,by simp[kn],hF⟩
def GF(p:Pc):Bool:=(p.l.kind==1)&&p.d
def pdA(l:List Pc)(i:Nat):Bool:=match l[i]? with|some p=>GF p|none=>false
theorem VN{l:List Pc}{i:Nat}{p:Pc}(h:l[i]?=some p):pdA l i=GF p:=by simp[pdA,h]
def uj(l:List Pc):Option Nat:=(List.range l.length).find? (pdA l)
theorem aiy(p:Pc):aI S 116 [.agg (p.ps.map .p)] (rb (GF p)):=by
 refine aZ c116 ?_;unfold GF;cases h:(p.l.kind==1) with
 |true=>simp only[go_sem,i116,Pc.ps,h]
 |false=>simp only[go_sem,i116,Pc.ps,h]
theorem alS(l:List Pc)(hl:l.length<=1000000):aI S 115 [.one (.p (.sl (dN l))),.one (.p (.fn 116 [] []))] (ri (match uj l with|some k=>(k:Int)|none=> -1)):=by
 refine aZ c115 ?_;simp only[go_sem,i115];refine cV (fun k ak aj=>ak 0=.one (.p (.sl (dN l)))/\ak 1=.one (.p (.fn 116 [] []))/\ak 7=vi l.length/\ak 8=vi k/\ ∀j,j<k->pdA l j=false) 0 l.length (bG _) ?_ ?_
 .simp only[go_sem];exact⟨rfl,fun j hj=>absurd hj (qY j)⟩
 rintro k ak aj hk ⟨h0,h1,h7,h8,hn⟩
 by_cases ay:k<l.length
 .have aJ:((k:Int)<(l.length:Int)):=aa;obtain⟨p,hp⟩:=aL ay;have iS:=jW hp;have w1:=cn (n:=k) aa;have pd:=aiy p;have qN:=VN hp;cases hb:GF p with
  |true=>rw[hb] at pd qN;have hf:uj l=some k:=B0 ay hn qN;simp only[Pc.ps,dS,kQ] at pd;simp only[go_sem,i115_l1,h0,h1,h7,h8,aJ,iS,Pc.ps,s116,cY pd,hf]
  |false=>
   rw[hb] at pd qN;simp only[Pc.ps,dS,kQ] at pd;simp only[go_sem,i115_l1,h0,h1,h7,h8,ay,aJ,iS,Pc.ps,s116,cY pd,w1];intro j hj;rcases mY.1 hj with h|rfl
   .exact hn j h
   exact qN
 have:k=l.length:=aa;subst this;have hf:uj l=none:=HZ hn;simp only[go_sem,i115_l1,i115_r2,h7,h8,eE,hf]
abbrev jI:Nat:=41
def vw(l:List Pc)(ajL k:Nat):List Let:=(List.range k).map fun i=>(l.getD ((ajL+i)%l.length) ⟨lh,false⟩).l
theorem apA{l:List Pc}{f k:Nat}{p:Pc}(h:l[(f+k)%l.length]?=some p):vw l f (k+1)=vw l f k++[p.l]:=by simp[vw,wT,dq,h]
def qF(l:List Pc):List Let:=vw l ((uj l).getD 0) l.length
abbrev dw(o:List Let):List (List PV):=o.map Let.ps
theorem akf{s1 t1 z1:Nat}{es:List (List PV)}{c:C}{x:PV}{aj:aA}(h:grown s1 t1 z1 es (.one c) aj):iU aj (.agg [.p x,c])=some (.agg [.p x,aT t1 z1 es]):=by obtain⟨c',o,hc,h2,h3⟩:=h.ke;cases hc;rcases h3 with rfl|rfl<;>simp[iU,tA,nT,mT,h2,(show Go.Abs.ke aj (.p x)=some (.p x,[],[]) from rfl),apart,vv,sX]
theorem ajt(F:Nat)(l:List Pc)(hl:l.length<=1000000)(x1 x2 x3 x4 x5 x6:PV):aI S 96 [.one (.p (.box [.int .i64 F,x1,x2,x3,x4,x5,x6])),.one (.p (.sl (dN l)))] (.agg [.p (.int .i64 F),aT jI 6 (dw (qF l))]):=by
 have px:=alS l hl;have hfd:∃f,(uj l).getD 0=f/\(l≠[]->f<l.length):=by
  refine⟨_,rfl,fun aH=>?_⟩;cases h:uj l with
  |none=>exact iX.2 aH
  |some k=>exact gj.1 (He h)
 obtain⟨f,hf,xE⟩:=hfd;have sI:((uj l=none/\f=0)\/uj l=some f):=by
  cases h:uj l with
  |none=>rw[h] at hf;exact .inl ⟨rfl,hf.symm⟩
  |some k=>rw[h] at hf;exact .inr (congrArg some hf)
 unfold qF;rw[hf];have main:∀(ak:Env) (aj:aA),ak 1=.one (.p (.sl (dN l)))->ak 4=.one (.aY 6144000000 1 0)->ak 5=.one (.aY 6144064320 1 0)->ak 6=vi f->ak 17=vi l.length->ak 18=vi ((0:Nat):Int)->aj 6144000000=(1,some (.var [.p (.int .i64 0),.p .nils]))->aj 6144064320=(1,some (.var [.p (.int .i64 F),.p .nils]))->
   W S .all (.loop i96_l1) (mI 0 (zB S .all i96_r2 (mJ .all [(4,some (some 2))] fun v aj=>iU aj v=some (.agg [.p (.int .i64 F),aT jI 6 (dw (vw l f l.length))])))) ak aj:=by
  intro ak aj e1 e4 e5 e6 HS HT b0 bO;refine cV (fun k ak aj=>ak 1=.one (.p (.sl (dN l)))/\ak 4=.one (.aY 6144000000 1 0)/\ak 5=.one (.aY 6144064320 1 0)/\ak 6=vi f/\ak 17=vi l.length/\ak 18=vi k/\aj 6144000000=(1,some (.var [.p (.int .i64 0),.p .nils]))/\ ∃c,aj 6144064320=(1,some (.var [.p (.int .i64 F),c]))/\grown 6144384832 jI 6 (dw (vw l f k)) (.one c) aj) 0 l.length (bG _) ⟨e1,e4,e5,e6,HS,HT,b0,.p .nils,bO,.inl ⟨rfl,rfl⟩⟩ ?_;rintro k ak aj hk ⟨h1,h4,h5,h6,jg,gY,b0,c,bO,gc⟩
  by_cases ay:k<l.length
  .have aJ:((k:Int)<(l.length:Int)):=aa;have aH:l≠[]:=iX.1 aa;have xE:=xE aH;have w1:=cn (n:=k) aa;have w2:=wrap_add (a:=f) (b:=k) aa;have e2:=vB (f+k) l.length;have hm:=eH (f+k) (show 0<l.length by omega);obtain⟨p,hp⟩:=aL hm;have iS:=jW hp;have hz:¬((l.length:Int)=0):=aa;have hr:=apA hp;have hle:(vw l f k).length=k:=by simp[vw]
   simp only[go_sem,i96_l1,h1,h5,h6,jg,gY,bO,aJ,w2,e2,hz,iS,Pc.ps];refine zR (site:=6144384832) (id:=6144384832) (bytes:=48) (xs:=[p.l.ps]) (rd:=[6144384768]) (gc.of_eq (aS ae)) (by simp[fF,aN,Let.ps]) (.inl rfl) (by simp only[cM,hle,dh,ff];omega) fun c' bK r u hc hb hru=>?_;have bO1:=(hb 6144064320 ae ae).trans ((aS ae).trans bO);have b01:=(hb 6144000000 ae ae).trans ((aS ae).trans b0);simp only[go_sem,h1,h4,h5,h6,jg,gY,bO1,b01,ay,w1];refine⟨?_,c',rfl,?_⟩
   .rcases hru with ⟨rfl,rfl⟩|⟨rfl,rfl⟩|⟨rfl,rfl⟩<;>kernel_rfl
   rw[hr,dw,ll];exact hc.of_eq (aS ae)
  have:k=l.length:=aa;subst this;simp only[go_sem,i96_l1,i96_r2,h4,h5,jg,gY,bO,b0,eE];exact akf (gc.of_eq (aS ae))
 refine aZ c96 ?_;rcases sI with ⟨hn,rfl⟩|hs
 .rw[hn] at px;have L8:¬((0:Int)< -1):=ae;simp only[go_sem,i96,s115,eJ px];exact main _ _ (by simp only[go_sem]) (by simp only[go_sem]) (by simp only[go_sem]) (by simp only[go_sem];rfl) (by simp only[go_sem]) (by simp only[go_sem];rfl) (by simp only[go_sem]) (by simp only[go_sem])
 rw[hs] at px;simp only[go_sem,i96,s115,eJ px];exact main _ _ (by simp only[go_sem]) (by simp only[go_sem]) (by simp only[go_sem]) (by simp only[go_sem];split<;>(first|rfl|(congr 1;simp;omega))) (by simp only[go_sem]) (by simp only[go_sem];rfl) (by simp only[go_sem]) (by simp only[go_sem])
theorem amf:aI S 94 [] (.agg [.p .jx,.p (.fn 106 [] []),.p (.fn 107 [] []),.p (.fn 108 [] []),.p (.fn 109 [] []),.p (.fn 110 [] []),.p (.fn 111 [] []),.p (.fn 112 [] []),.p (.fn 113 [] []),.p (.fn 114 [] []),.p (.fn 114 [] [])]):=by refine aZ c94 ?_;simp only[go_sem,i94];rfl
def nz(k:Int):Int×Int:=if k=2 then (2,0) else if k=5 then (2,1) else if k=7 then (4,2) else (0,0)
theorem akg(k:Int):aI S 95 [vi k] (.tup [.one (.p (.int .i64 (nz k).1)),.one (.p (.int .i64 (nz k).2))]):=by
 refine aZ c95 ?_;unfold nz;by_cases h2:k=2
 .subst h2;simp only[go_sem,i95];rfl
 by_cases h5:k=5
 .subst h5;simp only[go_sem,i95];rfl
 by_cases h7:k=7
 .subst h7;simp only[go_sem,i95];rfl
 rw[if_neg h2,if_neg h5,if_neg h7];have e2:(k==2)=false:=by simpa using h2
 have e5:(k==5)=false:=by simpa using h5
 have e7:(k==7)=false:=by simpa using h7
 simp only[go_sem,i95,e2,e5,e7];rfl
theorem XU{l:List Pc}(aH:l≠[])(hl:l.length<=1000000):aI S 131 [.one (.p (.sl (dN l)))] (.one (aT my 7 (dN l))):=by
 cases l with
 |nil=>exact absurd rfl aH
 |cons p t=>exact ahV p t hl
section
variable {Q:dA} {ak:Env} {aj:aA} {os:List aO} {d:Option Nat}
theorem aaA{id:Nat}{l:List Pc}{c:C}{g ab b:Int}(hl:l.length<=1000000)(hb: -100<=b/\b<=100)(hr:∀p∈l,-1000000<=p.l.aD/\p.l.aD<=1000000)(hg:grown id my 7 (dN l) (.one c) aj)
  (hK:∀ao,grown id my 7 (dN (kn l g ab b)) (.one c) ao->(∀i,i≠id->ao i=aj i)->RN S .all os Q (put ak d (.tup [])) ao):gP S .all (.sc 129 [.one c,vi g,vi ab,vi b]) d os Q ak aj:=by
 have ho:l=[]\/(allow (S.ctx .all) 129 [.one c,vi g,vi ab,vi b] aj).ok id=true:=by
  rcases Qa hg with ⟨h,_⟩|h
  .exact .inl (by simpa using h)
  exact .inr (se (by simp[h]))
 refine rC (P:=aeT id (dN (kn l g ab b)) c aj) za (apZ ho hl hb hr hg) ?_;rintro v ao ⟨rfl,h1,h2⟩
 exact hK ao h1 h2
end
theorem amw(fs:List Fc):∀(j:Nat) (L:List Nat),∀v∈qm fs j L,v∈L\/v<j+fs.length:=by
 have ia:∀(ds:List Nat) (L:List Nat) (x:Nat),∀v∈oF L ds x,v∈L\/v=x:=by
  intro ds
  induction ds with
  |nil=>intro L x v h;exact .inl h
  |cons d ds ih=>
   intro L x v h;rcases ih (L.set d x) x v h with h|h
   .rcases List.mem_or_eq_of_mem_set h with h|h
    .exact .inl h
    exact .inr h
   exact .inr h
 induction fs with
 |nil=>intro j L v h;exact .inl h
 |cons f r ih=>
  intro j L v h;rcases ih (j+1) (oF L f.dp j) v h with h|h
  .rcases ia _ _ _ v h with h|h
   .exact .inl h
   subst h;exact .inr af
  exact .inr (by simp only[dh];omega)
def MQ:Fc:=⟨false,[],[],[],false⟩
def tv(F:Nat)(ls:List Let)(d:Nat):Fc:=(eV F ls).getD ((ow F ls).getD d 0) MQ
theorem Vq(F:Nat)(ls:List Let):(ow F ls).length=2*ls.length:=by simp[ow,Pr]
theorem Ua(g:dF F ls){d:Nat}(hd:d<2*ls.length):∃j,(ow F ls)[d]?=some j/\(eV F ls)[j]?=some (tv F ls d)/\j<(eV F ls).length:=by
 obtain⟨j,hj⟩:=aL (ls:=ow F ls) (k:=d) (by rw[Vq];exact hd);have hn:0<(eV F ls).length:=by rw[ZY,g.nw];omega
 have xJ:j<(eV F ls).length:=by
  rcases amw (eV F ls) 0 _ j (aU hj) with h|h
  .have:=QM h;omega
  omega
 refine⟨j,hj,?_,xJ⟩;obtain⟨f,hf⟩:=aL xJ;unfold tv;rw[dq (l:=ow F ls),hj,nc,dq,hf];rfl
def ado(b:Nat)(r:Int)(d:Bool):Pc:=⟨⟨1,b,r,0,0,false⟩,d⟩
def NF(ls:List Let)(av b c:Nat)(f:Fc)(side:Bool):List Pc:=Ey (kn (pieces ls) b c 2) [ado b (if f.ij !=side then ((c+2:Nat):Int) else ((c+1:Nat):Int)) f.ij,ado b (if f.ij !=side then ((c+1:Nat):Int) else ((c+2:Nat):Int)) (!f.ij)] av
def amR(F:Nat)(ls:List Let)(av b c:Nat):Option (List Pc):=
 if (b,c)∈(tv F ls (2*av)).places then some (NF ls av b c (tv F ls (2*av)) false)
 else if (b,c)∈(tv F ls (2*av+1)).places then some (NF ls av b c (tv F ls (2*av+1)) true) else none
def kR (o:Option (List Pc)):RV:=.tup [.one (aT my 7 (dN (o.getD []))),.one (.p (.bool o.isSome))]
theorem apa(g:dF F ls):∀p∈pieces ls,-1000000<=p.l.aD/\p.l.aD<=1000000:=by
 intro p hp;obtain⟨i,hi⟩:=jZ hp;have xH:i<ls.length:=by rw[<- fW];exact(aW.1 hi).1
 obtain⟨l,hl⟩:=aL xH;rw[rV hl] at hi;cases hi;rcases g.ok.kinds l (aU hl) with h|h
 .have hg:=g.ok.ax.fm l (aU hl) h;have:=hg.r0;have:=hg.r1;have hc:cg ls l.gate.toNat<=ls.length:=tj _ _;have:=g.len;simp only;omega
 have:=(PB (f:=F) h).1 (g.bad l (aU hl));simp only[this.1.2];omega
def lmR(ls:List Let)(av:Nat)(sg:Int)(o:Bool):List Pc:=Ey (pieces ls) [⟨⟨2,0,0,((aw Let.aB ls/2+1:Nat):Int),sg,o⟩,false⟩,⟨⟨2,0,0,((aw Let.aB ls/2+1:Nat):Int),sg,!o⟩,false⟩] av
def jR(n:Nat)(i:Int):Bool:=decide (0<=i)&&decide (i<(n:Int))
theorem is_p(i:Int)(n:Nat):aI S 105 [vi i,.one (.p (.box [.int .i64 n]))] (rb (jR n i)):=by
 refine aZ c105 ?_;unfold jR;by_cases h1:0<=i
 .by_cases h2:i<(n:Int)
  .simp only[go_sem,i105,h1,h2]
  simp only[go_sem,i105,h1,h2]
 simp only[go_sem,i105,h1]
theorem GM(l:List Let):((dw l).all fun e=>e.all PV.scalar)=true:=by simp[Let.ps,PV.scalar]
abbrev rX(F:Nat)(L:List Let):RV:=.tup [.agg [.p (.int .i64 F),aT jI 6 (dw L)],.one (.p (.int .i64 0))]
def zT(F:Nat)(ls:List Let)(k:Int):Option (List Pc)->RV
 |none=>uI 4
 |some L=>if (400:Int)<(ls.length:Int)+(nz k).1\/(100:Int)<((aw Let.aB ls/2:Nat):Int)+(nz k).2 then uI 7 else rX F (qF L)
section
variable {h:Nat}
end
section
variable {h:Nat}
end
theorem Z5(L:List Pc):(qF L).length=L.length:=by simp[qF,vw]
theorem Pa(l x:List Pc)(k:Nat):(Ey l x k).length=l.length+x.length:=by simp only[Ey,gh,iu,kO];omega
end
end Go.Abs
