/-
  The walk around a face in the program.
-/
import Derived.Test.YtnbfnkckmfibpaaGreatDoorWm
set_option linter.unusedSimpArgs false
set_option linter.unusedVariables false
set_option linter.unusedSectionVars false
set_option maxRecDepth 100000
set_option maxHeartbeats 16000000
namespace Go.Abs
theorem KW{e:List PV}(h:e.length=1): ∃ x0,e=[x0]:=by
 match e,h with
 |[a],_=>exact⟨a,rfl⟩
theorem Sy{e:List PV}(h:e.length=2): ∃ x0 x1,e=[x0,x1]:=by
 match e,h with
 |[a,b],_=>exact⟨a,b,rfl⟩
theorem Sx{e:List PV}(h:e.length=7): ∃ x0 x1 x2 x3 x4 x5 x6,e=[x0,x1,x2,x3,x4,x5,x6]:=by
 match e,h with
 |[a,b,c,d,f,g,i],_=>exact⟨a,b,c,d,f,g,i,rfl⟩
structure HN (es fs:List (List PV)) (k:Nat):Prop where
 len:fs.length=es.length
 at': ∀ i,i<es.length->fs[i]? =if i<k\/es.length - 1 - i<k then es[es.length - 1 - i]? else es[i]?
theorem HN.start(es:List (List PV)):HN es es 0:=⟨rfl,fun i _=>by rw[if_neg (by omega)]⟩
theorem HN.step{es fs:List (List PV)}{k:Nat}{a b:List PV}(h:HN es fs k)(hk:k<es.length - 1 - k)(ha:es[k]? =some a)(hb:es[es.length - 1 - k]? =some b):
  fs[k]? =some a/\fs[es.length - 1 - k]? =some b/\HN es ((fs.set k b).set (es.length - 1 - k) a) (k+1):=by
 have hlen:=h.len;refine⟨?_,?_,⟨by rw[aaD,aaD];exact hlen,fun i hi=> ?_⟩⟩
 ·rw[h.at' k (by omega),if_neg (by omega),ha]
 ·rw[h.at' _ (by omega),if_neg (by omega),hb]
 ·rw[aa3,aaD];by_cases e1:es.length - 1 - k=i
  ·rw[if_pos e1,if_pos (by omega),if_pos (by omega),show es.length - 1 - i=k by omega,ha]
  ·rw[if_neg e1,aa3];by_cases e2:k=i
   ·subst e2;rw[if_pos rfl,if_pos (by omega),if_pos (by omega),hb]
   ·rw[if_neg e2,h.at' i hi];by_cases e3:i<k\/es.length - 1 - i<k
    ·rw[if_pos e3,if_pos (by omega)]
    ·rw[if_neg e3,if_neg (by omega)]
theorem HN.done{es fs:List (List PV)}{k:Nat}(h:HN es fs k)(hk: ¬ k<es.length - 1 - k):fs=es.reverse:=by
 refine ade fun i=> ?_
 rcases Nat.lt_or_ge i es.length with hi|hi
 ·rw[h.at' i hi,List.getElem?_reverse hi];by_cases e:i<k\/es.length - 1 - i<k
  ·rw[if_pos e]
  ·rw[if_neg e,show es.length - 1 - i=i by omega]
 ·rw[abI (by rw[h.len];exact hi),abI (by rw[abh];exact hi)]
def pT(id ty z:Nat)(es:List (List PV))(c:C)(Tc:aB)(v:V)(Td:aB):Prop:=v= .tup []/\grown id ty z es.reverse (.one c) Td/\Kept (· =id) Tc Td
theorem Kj{al:Al}{Tc:aB}{id ty:Nat}{es:List (List PV)}{c:C}(o:es=[]\/al.ok id=true)(hl:es.length<=1000000)(UL: ∀ e∈es,e.length=1/\ ∀ v∈e,v.norm=v)(h:grown id ty 1 es (.one c) Tc):
  ∃ v Td,pz S 111 [.one c] al Tc v Td/\pT id ty 1 es c Tc v Td:=by
 refine eY c111 (aaN rfl) ?_;rcases h with ⟨rfl,h2⟩|⟨TA,g,h2,hC⟩
 ·cases h2
  have w0:IntKind.i64.wrap (((0:Nat):Int) - 1)= -1:=by decide
  have hz: ¬ ((0:Int)< -1):=by decide
  simp only[go_sem,i111,w0];refine be (fun k env Td=>k=0/\env 2=vi 0/\env 3=vi (-1)/\Td=Tc) 0 0 (aal _) ?_ ?_
  ·simp only[go_sem]
  ·rintro k env Td _ ⟨rfl,h2,h3,rfl⟩
   simp only[go_sem,i111_l1,h2,h3,hz];exact⟨rfl, .inl ⟨rfl,rfl⟩,fun _ _=>rfl⟩
 ·cases h2
  have o:=o.resolve_left TA;have w0:=fd (a:=es.length) (by omega);simp only[go_sem,i111,w0];refine be (fun k env Td=>env 0= .one (.hsl id g 1 0 es.length)/\env 2=vi k/\env 3=vi ((es.length:Int) - 1 - (k:Int))/\ ∃ fs,Td id=(g,some (.arr ty 1 fs))/\HN es fs k/\Kept (· =id) Tc Td) 0 es.length (aah _) ?_ ?_
  ·simp only[go_sem];refine⟨rfl,by simp,es,hC,HN.start es,Kept.refl _ _⟩
  ·rintro k env Td hk ⟨h0,h2,h3,fs,hF,hI,TL⟩
   by_cases Ti:k<es.length - 1 - k
   ·have e1:((es.length:Int) - 1 - (k:Int))=((es.length - 1 - k:Nat):Int):=by omega
    rw[e1] at h3;have Tk:((k:Int)<((es.length - 1 - k:Nat):Int)):=by omega
    have w1:=am (n:=k) (by omega);have w2:IntKind.i64.wrap (((es.length - 1 - k:Nat):Int) - 1)=((es.length:Int) - 1 - ((k+1:Nat):Int)):=by
     rw[fd (by omega)];omega
    obtain⟨a,ha⟩:=ao (show k<es.length by omega);obtain⟨b,hb⟩:=ao (show es.length - 1 - k<es.length by omega);obtain⟨fa,fb,hI2⟩:=hI.step Ti ha hb;obtain⟨la,na⟩:=UL a (aaf ha);obtain⟨lb,nb⟩:=UL b (aaf hb);obtain⟨x0,rfl⟩:=KW la;obtain⟨y0,rfl⟩:=KW lb;have aaV:=na x0 (by simp);have aaU:=nb y0 (by simp);have WM:=hI.len;have hkj: ¬ (k=es.length - 1 - k):=by omega
    have aek: ¬ (es.length - 1 - k=k):=by omega
    have l1:k<fs.length:=by omega
    have l2:es.length - 1 - k<fs.length:=by omega
    have l3:k<es.length:=by omega
    have l4:es.length - 1 - k<es.length:=by omega
    simp only[go_sem,i111_l1,h0,h2,h3,hF,Tk,fa,fb,w1,w2,o,l1,l3,l4,hkj,aaV,aaU,aa3];refine⟨au,_,rfl,hI2,?_⟩;exact(TL.fD rfl _).fD rfl _
   ·have Tk: ¬ ((k:Int)<(es.length:Int) - 1 - (k:Int)):=by omega
    simp only[go_sem,i111_l1,h2,h3,Tk];refine⟨rfl,?_,TL⟩;rw[hI.done Ti] at hF;exact .inr ⟨by simpa using TA,g,by rw[abh],hF⟩
theorem Eq{al:Al}{Tc:aB}{id ty:Nat}{es:List (List PV)}{c:C}(o:es=[]\/al.ok id=true)(hl:es.length<=1000000)(UL: ∀ e∈es,e.length=2/\ ∀ v∈e,v.norm=v)(h:grown id ty 2 es (.one c) Tc):
  ∃ v Td,pz S 110 [.one c] al Tc v Td/\pT id ty 2 es c Tc v Td:=by
 refine eY c110 (aaN rfl) ?_;rcases h with ⟨rfl,h2⟩|⟨TA,g,h2,hC⟩
 ·cases h2
  have w0:IntKind.i64.wrap (((0:Nat):Int) - 1)= -1:=by decide
  have hz: ¬ ((0:Int)< -1):=by decide
  simp only[go_sem,i110,w0];refine be (fun k env Td=>k=0/\env 2=vi 0/\env 3=vi (-1)/\Td=Tc) 0 0 (aal _) ?_ ?_
  ·simp only[go_sem]
  ·rintro k env Td _ ⟨rfl,h2,h3,rfl⟩
   simp only[go_sem,i110_l1,h2,h3,hz];exact⟨rfl, .inl ⟨rfl,rfl⟩,fun _ _=>rfl⟩
 ·cases h2
  have o:=o.resolve_left TA;have w0:=fd (a:=es.length) (by omega);simp only[go_sem,i110,w0];refine be (fun k env Td=>env 0= .one (.hsl id g 2 0 es.length)/\env 2=vi k/\env 3=vi ((es.length:Int) - 1 - (k:Int))/\ ∃ fs,Td id=(g,some (.arr ty 2 fs))/\HN es fs k/\Kept (· =id) Tc Td) 0 es.length (aah _) ?_ ?_
  ·simp only[go_sem];refine⟨rfl,by simp,es,hC,HN.start es,Kept.refl _ _⟩
  ·rintro k env Td hk ⟨h0,h2,h3,fs,hF,hI,TL⟩
   by_cases Ti:k<es.length - 1 - k
   ·have e1:((es.length:Int) - 1 - (k:Int))=((es.length - 1 - k:Nat):Int):=by omega
    rw[e1] at h3;have Tk:((k:Int)<((es.length - 1 - k:Nat):Int)):=by omega
    have w1:=am (n:=k) (by omega);have w2:IntKind.i64.wrap (((es.length - 1 - k:Nat):Int) - 1)=((es.length:Int) - 1 - ((k+1:Nat):Int)):=by
     rw[fd (by omega)];omega
    obtain⟨a,ha⟩:=ao (show k<es.length by omega);obtain⟨b,hb⟩:=ao (show es.length - 1 - k<es.length by omega);obtain⟨fa,fb,hI2⟩:=hI.step Ti ha hb;obtain⟨la,na⟩:=UL a (aaf ha);obtain⟨lb,nb⟩:=UL b (aaf hb);obtain⟨x0,x1,rfl⟩:=Sy la;obtain⟨y0,y1,rfl⟩:=Sy lb;have aaV:=na x0 (by simp);have aeb:=na x1 (by simp);have aaU:=nb y0 (by simp);have aea:=nb y1 (by simp);have WM:=hI.len;have hkj: ¬ (k=es.length - 1 - k):=by omega
    have aek: ¬ (es.length - 1 - k=k):=by omega
    have l1:k<fs.length:=by omega
    have l2:es.length - 1 - k<fs.length:=by omega
    have l3:k<es.length:=by omega
    have l4:es.length - 1 - k<es.length:=by omega
    simp only[go_sem,i110_l1,h0,h2,h3,hF,Tk,fa,fb,w1,w2,o,l1,l3,l4,hkj,aaV,aeb,aaU,aea,aa3];refine⟨au,_,rfl,hI2,?_⟩;exact(TL.fD rfl _).fD rfl _
   ·have Tk: ¬ ((k:Int)<(es.length:Int) - 1 - (k:Int)):=by omega
    simp only[go_sem,i110_l1,h2,h3,Tk];refine⟨rfl,?_,TL⟩;rw[hI.done Ti] at hF;exact .inr ⟨by simpa using TA,g,by rw[abh],hF⟩
theorem kG{site ty z:Nat}{es:List (List PV)}{c:C}{Tc:aB}(h:grown site ty z es (.one c) Tc):(es=[]/\co Tc (.one c)=[])\/co Tc (.one c)=[site]:=by
 rcases h with ⟨h1,h2⟩|⟨h1,g,h2,h3⟩
 ·cases h2;exact .inl ⟨h1,zY⟩
 ·cases h2;exact .inr (show dG Tc 6 (.hsl site g z 0 es.length)=[site] from jO (n:=5) h3)
section
variable {al:Al} {Q:cZ} {env:Env} {Tc:aB} {os:List az} {d:Option Nat}
theorem Lu{f id ty z:Nat}{es:List (List PV)}{c:C}(adY: ∀ {al:Al} {Tc:aB},es=[]\/al.ok id=true->grown id ty z es (.one c) Tc-> ∃ v Td,pz S f [.one c] al Tc v Td/\pT id ty z es c Tc v Td)(hs:S.sites f=[f])(hg:grown id ty z es (.one c) Tc)(oid:al.ok id=true)(hf:al.fs.contains f=true)
  (hK: ∀ Td,grown id ty z es.reverse (.one c) Td->(∀ i,i≠id->Td i=Tc i)->RN S al os Q (put env d (.tup [])) Td):gP S al (.sc f [.one c]) d os Q env Tc:=by
 refine fg (P:=pT id ty z es c Tc) (holds_of ?_ ?_) (adY ?_ hg) ?_
 ·show al.kB ([V.one c].map (co Tc)).flatten=true;rcases kG hg with ⟨_,h⟩|h
  ·simp[h,Al.kB]
  ·simp[h,Al.kB,oid]
 ·show(S.sites f).all al.fs.contains=true;rw[hs];simp only[abR,abZ,hf,Bool.and_self]
 ·rcases kG hg with ⟨h,_⟩|h
  ·exact .inl h
  ·exact .inr (cK (by simp[h]))
 ·rintro v Td ⟨rfl,h1,h2⟩
  exact hK Td h1 h2
end
theorem Nb:S.sites 110=[110]:=by kernel_rfl
theorem Nc:S.sites 111=[111]:=by kernel_rfl
theorem mW{F:Nat}{ls:List ae}(ok:eN F ls){x:Nat}(h:x<nD ls):cM ls x<nD ls:=qq ok.nJ ok.hp h
abbrev mS(id:Nat):Prop:=bY id=72
structure FE (ls:List ae) (kO gS idB gB g8 gF:Nat) (sp:List Bool) (f:Fc) (cd cp cf:C) (Tc:aB):Prop where
 bS:Tc kO=(gS,some (.arr 4 1 (bP sp)))
 bB:Tc idB=(gB,some (.arr 4 1 (bP (AS ls))))
 b8:Tc 4608000000=(g8,some (.var [.p (.bool false), .p .nils, .p .nils, .p .nils, .p (.bool false)]))
 bF:Tc 4608128448=(gF,some (.var [.p (.bool f.Tu),cd,cp,cf, .p (.bool f.outer)]))
 gd:grown 4608512256 3 1 (nP f.Tl) (.one cd) Tc
 gp:grown 4608896192 qI 2 (fv f.places) (.one cp) Tc
 gf:grown 4608896448 3 1 (nP f.TF) (.one cf) Tc
theorem O9{F:Nat}{ls:List ae}(ok:eN F ls){f:Fc}{x k:Nat}(hx:x<nD ls)(h:f.Tl.length<=k/\f.places.length<=k*(2*F+2)/\f.TF.length<=k*(2*F+2)):(f.add F ls x).Tl.length<=k+1/\(f.add F ls x).places.length<=(k+1)*(2*F+2)/\(f.add F ls x).TF.length<=(k+1)*(2*F+2):=by
 obtain⟨i1,i2,i3⟩:=h;rw[Nat.succ_mul];unfold Fc.add;by_cases h:x<2*ls.length
 ·rw[if_pos h];simp only[aay,aar,aav];exact⟨by omega,by omega,by omega⟩
 ·rw[if_neg h];have hj:(x - 2*ls.length)/2<(ah ls).length:=by unfold nD at hx;omega
  have l1:=mf ok hj;have l2:=mg ok hj;refine⟨by simp only;omega,?_,?_⟩
  ·simp only[aay];split<;>(try rw[abh])<;>omega
  ·simp only[aay];split<;>(try rw[abh])<;>omega
theorem Rf{al:Al}{F:Nat}{ls:List ae}(ok:eN F ls)(hF:F<=1000)(okf: ∀ id,mS id->al.ok id=true){kO gS idB gB g8 gF d:Nat}(oS:al.ok kO=true)(nS: ¬ mS kO)(nB: ¬ mS idB)(nSB:kO≠idB)(f1:al.fs.contains 110=true)(f2:al.fs.contains 111=true)(hd:d<2*ls.length){Q:cZ}:
  ∀ (fuel k x:Nat) (Us:List Bool) (f:Fc) (env:Env) (Tc:aB) (cd cp cf:C),env 0= .one (.p (DP F ls))->env 2= .one (.hsl kO gS 1 0 (2*ls.length))->env 8= .one (.Tn 4608000000 g8 0)->env 9=vi ls.length->env 10=vi (ah ls).length->env 11= .one (.Tn 4608128448 gF 0)->env 12=vi x->
   FE ls kO gS idB gB g8 gF (Us.take (2*ls.length)) f cd cp cf Tc->Us.length=nD ls->x<nD ls->Inv (cM ls) (nD ls) d Us x->jw Us<fuel->(k+fuel<=5000000)->(f.Tl.length<=k/\f.places.length<=k*(2*F+2)/\f.TF.length<=k*(2*F+2))->
   (∀ Tg Td Yx Vs X5,Tg 8=env 8->Tg 11=env 11->FE ls kO gS idB gB g8 gF ((bQ (cM ls) fuel x Us).2.take (2*ls.length)) ((bQ (cM ls) fuel x Us).1.foldl (Fc.add F ls) f) Yx Vs X5 Td->(∀ id,¬ (mS id\/id=kO)->Td id=Tc id)->Q .normal Tg Td)->
   W S al (.loop i72_l1) (ey 0 Q) env Tc:=by
 have hl:=ok.hl;have UG:(ah ls).length<=1000000:=aa5 (cn ls ls.length) hl;have U3:nD ls<=4000000:=by unfold nD;omega
 have m2:=bX (a:=ls.length) (by omega);have k0:al.ok 4608000000=true:=okf _ rfl;have kF:al.ok 4608128448=true:=okf _ rfl;have kd0:al.ok 4608512192=true:=okf _ rfl;have kd:al.ok 4608512256=true:=okf _ rfl;have kp:al.ok 4608896192=true:=okf _ rfl;have kf:al.ok 4608896448=true:=okf _ rfl;have kr1:al.ok 4608640128=true:=okf _ rfl;have kr2:al.ok 4608640129=true:=okf _ rfl;have hm:=maps ok;intro fuel
 induction fuel with
 |zero=>intro k x Us f env Tc cd cp cf _ _ _ _ _ _ _ _ _ _ _ h;omega
 |succ fuel ih=>
  intro k x Us f env Tc cd cp cf h0 h2 h8 h9 TJ Ui U4 hB hSl YP hi hu hk hlen hq;have hle:=hm.le;obtain⟨l1,l2,l3⟩:=hlen;have af4:k*(2*F+2)<=5000000*2002:=Nat.mul_le_mul (by omega) (by omega);have Vw:=O9 ok YP ⟨l1,l2,l3⟩;unfold bQ at hq;have nSi: ∀ {a:Nat},mS a->a≠kO:=fun h e=>nS (e▸h)
  have nBi: ∀ {a:Nat},mS a->a≠idB:=fun h e=>nB (e▸h)
  have nF: ¬ (4608128448=kO):=nSi rfl;refine dV ?_;cases hs:Us.getD x true with
  |true=>
   have hxd:=hi.i4 hs;have Ti:x<2*ls.length:=by omega
   have Tk:((x:Int)<((2*ls.length:Nat):Int)):=by omega
   rw[hs] at hq;simp only[if_true] at hq;have hb:(Us.take (2*ls.length))[x]? =some true:=by
    have h1:=zP Ti (show 2*ls.length<=Us.length by omega);rw[show sn Us x=true from hs,aap] at h1;have hx2:x<(Us.take (2*ls.length)).length:=by rw[aaB];omega
    obtain⟨b,hb⟩:=ao hx2;rw[hb] at h1 ⊢;exact congrArg some h1
   have Wn:=ig hb;simp only[go_sem,i72_l1,h0,h2,h9,U4,m2,Tk,Ti,hB.bS,Wn,oS];exact hq _ _ cd cp cf (by simp only[go_sem]) (by simp only[go_sem]) hB (fun _ _=>rfl)
  |false=>
   have hsx:Us[x]? =some false:=by
    rw[aap] at hs;cases h1:Us[x]? with
    |none=>rw[h1] at hs;cases hs
    |some b=>rw[h1] at hs;exact congrArg some hs
   have hun:=jT hsx;have pt:=GT ok x (by unfold nD at YP;exact YP);have TE:=hi.step hm hSl YP hs;rw[hs] at hq;simp only[aaL,if_false,abN] at hq;by_cases hd2:x<2*ls.length
   ·have Tk:((x:Int)<((2*ls.length:Nat):Int)):=by omega
    have hb:(Us.take (2*ls.length))[x]? =some false:=by rw[abi,if_pos hd2];exact hsx
    have Wn:=ig hb;have T5:=sT (Us.take (2*ls.length)) x true;rw[te] at T5;have aiM:f.add F ls x={f with Tl:=f.Tl++[x]}:=by unfold Fc.add;rw[if_pos hd2]
    simp only[go_sem,i72_l1,h2,h9,Ui,U4,m2,Tk,hd2,hB.bS,hB.bF,Wn,T5,oS,kF,kd0,nF];refine uv (site:=4608512256) (id:=4608512256) (bytes:=8) (xs:=[[.int .i64 (x:Int)]]) (rd:=[4608512192]) (by simp[kd,kd0]) (hB.gd.of_eq ((aj (by decide)).trans (aj (nSi rfl)))) (by simp[bh,af]) (.inl rfl) (by simp only[aak,aar,aav];omega) fun c Tp hc Tv=> ?_
    have aai: ∀ i,i≠4608512192->i≠4608512256->i≠kO->Tp i=Tc i:=fun i a b c=>(Tv i b b).trans ((aj a).trans (aj c))
    have ait:=(Tv kO (nSi rfl).symm (nSi rfl).symm).trans ((aj (nSi rfl).symm).trans fL);have bF2:=(aai 4608128448 (by decide) (by decide) (nSi rfl)).trans hB.bF;simp only[go_sem,bF2,h0,Ui,U4,kF,s108,iW pt];refine ih (k+1) (cM ls x) (Us.set x true) (f.add F ls x) _ _ c cp cf ?_ ?_ ?_ ?_ ?_ ?_ ?_ ?_ (by rw[aaD];exact hSl) (mW ok YP) TE (by omega) (by omega) Vw ?_
    ·simp only[go_sem,h0]
    ·simp only[go_sem,h2]
    ·simp only[go_sem,h8]
    ·simp only[go_sem,h9]
    ·simp only[go_sem,TJ]
    ·simp only[go_sem,Ui]
    ·simp only[go_sem]
    ·rw[aiM];refine⟨?_,?_,?_,fL,?_,?_,?_⟩
     ·exact(aj (nSi rfl).symm).trans ait
     ·exact(aj (nBi rfl).symm).trans ((aai _ (nBi rfl).symm (nBi rfl).symm nSB.symm).trans hB.bB)
     ·exact(aj (by decide)).trans ((aai _ (by decide) (by decide) (nSi rfl)).trans hB.b8)
     ·exact(jC _ _▸hc.of_eq (aj (by decide)))
     ·exact(hB.gp.of_eq (aai _ (by decide) (by decide) (nSi rfl))).of_eq (aj (by decide))
     ·exact(hB.gf.of_eq (aai _ (by decide) (by decide) (nSi rfl))).of_eq (aj (by decide))
    ·intro Tg Td Yx Vs X5 q8 Yz Yu TL;refine hq Tg Td Yx Vs X5 (by rw[q8];simp only[go_sem]) (by rw[Yz];simp only[go_sem]) Yu fun id hn=> ?_
     have a: ∀ y,mS y->id≠y:=fun y hy e=>hn (.inl (e▸hy))
     exact(TL id hn).trans ((aj (a _ rfl)).trans (aai id (a _ rfl) (a _ rfl) fun e=>hn (.inr e)))
   ·have hj:(x - 2*ls.length)/2<(ah ls).length:=by unfold nD at YP;omega
    have hpr:=So ok hF hj;have lP:=mf ok hj;have lF:=mg ok hj;have hd': ¬ ((x:Int)<((2*ls.length:Nat):Int)):=by omega
    have ws:=qp (a:=x) (b:=2*ls.length) (by omega) (by omega);have wq:=wrap_small (n:=(x - 2*ls.length)/2) (by omega);have w2:=fU (a:=(ah ls).length) (by omega) (by omega);have YH:((((x - 2*ls.length)/2:Nat):Int)==(((ah ls).length - 1:Nat):Int))=decide ((x - 2*ls.length)/2+1=(ah ls).length):=by
     by_cases h:(x - 2*ls.length)/2+1=(ah ls).length
     ·rw[decide_eq_true h];simp;omega
     ·rw[decide_eq_false h];simp;omega
    have Uj:(f.add F ls x).outer=(f.outer||decide ((x - 2*ls.length)/2+1=(ah ls).length)):=by unfold Fc.add;rw[if_neg hd2]
    have VZ:(f.add F ls x).Tu=f.Tu:=by unfold Fc.add;rw[if_neg hd2]
    have VW:(f.add F ls x).Tl=f.Tl:=by unfold Fc.add;rw[if_neg hd2]
    have UB:(f.add F ls x).places=f.places++(if x%2=0 then gM F ls ((x - 2*ls.length)/2) else (gM F ls ((x - 2*ls.length)/2)).reverse):=by unfold Fc.add;rw[if_neg hd2]
    have UK:(f.add F ls x).TF=f.TF++(if x%2=0 then jz F ls ((x - 2*ls.length)/2) else (jz F ls ((x - 2*ls.length)/2)).reverse):=by unfold Fc.add;rw[if_neg hd2]
    generalize f.add F ls x=f' at Uj VZ VW UB UK hq Vw;have lo1:S.lone 4608640128=false:=by kernel_rfl
    have sc1: ∀ l:List (Nat × Nat),((fv l).all fun e=>e.all PV.scalar)=true:=fun l=>by simp[PV.scalar]
    have sc2: ∀ l:List Nat,((nP l).all fun e=>e.all PV.scalar)=true:=fun l=>by simp[PV.scalar]
    have hnP: ∀ l:List (Nat × Nat),∀ e∈fv l,e.length=2/\ ∀ v∈e,v.norm=v:=fun l e he=>by
     obtain⟨a,_,rfl⟩:=aaF.1 he;exact⟨rfl,fun v hv=>by simp at hv;rcases hv with rfl|rfl<;>rfl⟩
    have hnF: ∀ l:List Nat,∀ e∈nP l,e.length=1/\ ∀ v∈e,v.norm=v:=fun l e he=>by
     obtain⟨a,_,rfl⟩:=aaF.1 he;exact⟨rfl,fun v hv=>by simp at hv;rcases hv with rfl;rfl⟩
    have ue:S.Tf 110=true:=by kernel_rfl
    have shI:S.Tf 111=true:=by kernel_rfl
    have Uq:(Us.set x true).take (2*ls.length)=Us.take (2*ls.length):=tg (by omega);generalize gM F ls ((x - 2*ls.length)/2)=PP at*;generalize jz F ls ((x - 2*ls.length)/2)=FF at*;simp only[go_sem,i72_l1,h0,h9,U4,m2,hd',ws,wq,aT,ch,s109];refine Q7 (by simp[kr1,kr2]) hpr lo1 (sc1 _) (sc2 _) fun c e Tq hc he hb=> ?_
    by_cases Uf:x%2=0
    ·have YC:((x:Int).tmod 2==1)=false:=by rw[dB,Uf];rfl
     rw[if_pos Uf] at UB UK;have hP:=hc;have hE:=he;have hbA: ∀ i,i≠4608640128->i≠4608640129->Tq i=Tc i:=hb;have bFN:=(hbA 4608128448 (by decide) (by decide)).trans hB.bF;simp only[go_sem,aT,YC,bFN,Ui,U4,kF];obtain⟨rP,hxP,hrP⟩:=hP.elems;refine uz (site:=4608896192) (id:=4608896192) (bytes:=16) (by rcases hrP with rfl|rfl<;>simp[kp,kr1]) (hB.gp.of_eq (hbA _ (by decide) (by decide))) hxP hP.gI (by simp only[aak];omega) fun c2 ada r1 u1 VH Un T8=> ?_
     have bF2:=(Un 4608128448 (by decide) (by decide)).trans bFN;simp only[go_sem,bF2,Ui,kF];obtain⟨rE,hxE,hrE⟩:=(hE.of_eq (Un _ (by decide) (by decide))).elems;refine uz (site:=4608896448) (id:=4608896448) (bytes:=8) (by rcases hrE with rfl|rfl<;>simp[kf,kr2]) (hB.gf.of_eq ((Un _ (by decide) (by decide)).trans (hbA _ (by decide) (by decide)))) hxE hE.gI (by simp only[aak];omega) fun c3 Xo r2 u2 hc3 hb5 YT=> ?_
     have Xp:=(hb5 4608128448 (by decide) (by decide)).trans bF2;have Ty: ∀ i,i≠4608640128->i≠4608640129->i≠4608896192->i≠4608896448->Xo i=Tc i:=fun i a b c d=>(hb5 i d d).trans ((Un i c c).trans (hbA i a b))
     have abg:grown 4608896192 qI 2 (fv f'.places) (.one c2) Xo:=by rw[UB,iw];exact VH.of_eq (hb5 _ (by decide) (by decide))
     have abf:grown 4608896448 3 1 (nP f'.TF) (.one c3) Xo:=by rw[UK,jC];exact hc3
     clear VH hc3;cases ho:f.outer with
     |true=>
      rw[ho] at Xp;simp only[go_sem,Xp,h0,Ui,U4,kF,s108,iW pt];refine⟨?_,?_⟩
      ·rcases hrP with rfl|rfl<;>rcases hrE with rfl|rfl<;>rcases T8 with ⟨rfl,rfl⟩|⟨rfl,rfl⟩|⟨rfl,rfl⟩<;>rcases YT with ⟨rfl,rfl⟩|⟨rfl,rfl⟩|⟨rfl,rfl⟩<;>kernel_rfl
      refine ih (k+1) (cM ls x) (Us.set x true) f' _ _ cd c2 c3 ?_ ?_ ?_ ?_ ?_ ?_ ?_ ?_ (by rw[aaD];exact hSl) (mW ok YP) TE (by omega) (by omega) Vw ?_
      ·simp only[go_sem,h0]
      ·simp only[go_sem,h2]
      ·simp only[go_sem,h8]
      ·simp only[go_sem,h9]
      ·simp only[go_sem,TJ]
      ·simp only[go_sem,Ui]
      ·simp only[go_sem]
      ·rw[Uq];refine⟨?_,?_,?_,?_,?_,?_,?_⟩
       ·exact(aj (nSi rfl).symm).trans ((aj (nSi rfl).symm).trans ((aj (nSi rfl).symm).trans ((Ty _ (nSi rfl).symm (nSi rfl).symm (nSi rfl).symm (nSi rfl).symm).trans hB.bS)))
       ·exact(aj (nBi rfl).symm).trans ((aj (nBi rfl).symm).trans ((aj (nBi rfl).symm).trans ((Ty _ (nBi rfl).symm (nBi rfl).symm (nBi rfl).symm (nBi rfl).symm).trans hB.bB)))
       ·exact(aj (by decide)).trans ((aj (by decide)).trans ((aj (by decide)).trans ((Ty _ (by decide) (by decide) (by decide) (by decide)).trans hB.b8)))
       ·rw[fL,VZ,Uj,ho];rfl
       ·rw[VW];exact hB.gd.of_eq ((aj (by decide)).trans ((aj (by decide)).trans ((aj (by decide)).trans (Ty _ (by decide) (by decide) (by decide) (by decide)))))
       ·exact abg.of_eq ((aj (by decide)).trans ((aj (by decide)).trans (aj (by decide))))
       ·exact abf.of_eq ((aj (by decide)).trans ((aj (by decide)).trans (aj (by decide))))
      ·intro Tg Td Yx Vs X5 q8 Yz Yu TL;refine hq Tg Td Yx Vs X5 (by rw[q8];simp only[go_sem]) (by rw[Yz];simp only[go_sem]) Yu fun id hn=> ?_
       have a: ∀ y,mS y->id≠y:=fun y hy e=>hn (.inl (e▸hy))
       exact(TL id hn).trans ((aj (a _ rfl)).trans ((aj (a _ rfl)).trans ((aj (a _ rfl)).trans (Ty id (a _ rfl) (a _ rfl) (a _ rfl) (a _ rfl)))))
     |false=>
      rw[ho] at Xp;simp only[go_sem,Xp,h0,TJ,Ui,U4,kF,w2,YH,s108,iW pt];refine⟨?_,?_⟩
      ·rcases hrP with rfl|rfl<;>rcases hrE with rfl|rfl<;>rcases T8 with ⟨rfl,rfl⟩|⟨rfl,rfl⟩|⟨rfl,rfl⟩<;>rcases YT with ⟨rfl,rfl⟩|⟨rfl,rfl⟩|⟨rfl,rfl⟩<;>kernel_rfl
      refine ih (k+1) (cM ls x) (Us.set x true) f' _ _ cd c2 c3 ?_ ?_ ?_ ?_ ?_ ?_ ?_ ?_ (by rw[aaD];exact hSl) (mW ok YP) TE (by omega) (by omega) Vw ?_
      ·simp only[go_sem,h0]
      ·simp only[go_sem,h2]
      ·simp only[go_sem,h8]
      ·simp only[go_sem,h9]
      ·simp only[go_sem,TJ]
      ·simp only[go_sem,Ui]
      ·simp only[go_sem]
      ·rw[Uq];refine⟨?_,?_,?_,?_,?_,?_,?_⟩
       ·exact(aj (nSi rfl).symm).trans ((aj (nSi rfl).symm).trans ((aj (nSi rfl).symm).trans ((Ty _ (nSi rfl).symm (nSi rfl).symm (nSi rfl).symm (nSi rfl).symm).trans hB.bS)))
       ·exact(aj (nBi rfl).symm).trans ((aj (nBi rfl).symm).trans ((aj (nBi rfl).symm).trans ((Ty _ (nBi rfl).symm (nBi rfl).symm (nBi rfl).symm (nBi rfl).symm).trans hB.bB)))
       ·exact(aj (by decide)).trans ((aj (by decide)).trans ((aj (by decide)).trans ((Ty _ (by decide) (by decide) (by decide) (by decide)).trans hB.b8)))
       ·rw[fL,VZ,Uj,ho];rfl
       ·rw[VW];exact hB.gd.of_eq ((aj (by decide)).trans ((aj (by decide)).trans ((aj (by decide)).trans (Ty _ (by decide) (by decide) (by decide) (by decide)))))
       ·exact abg.of_eq ((aj (by decide)).trans ((aj (by decide)).trans (aj (by decide))))
       ·exact abf.of_eq ((aj (by decide)).trans ((aj (by decide)).trans (aj (by decide))))
      ·intro Tg Td Yx Vs X5 q8 Yz Yu TL;refine hq Tg Td Yx Vs X5 (by rw[q8];simp only[go_sem]) (by rw[Yz];simp only[go_sem]) Yu fun id hn=> ?_
       have a: ∀ y,mS y->id≠y:=fun y hy e=>hn (.inl (e▸hy))
       exact(TL id hn).trans ((aj (a _ rfl)).trans ((aj (a _ rfl)).trans ((aj (a _ rfl)).trans (Ty id (a _ rfl) (a _ rfl) (a _ rfl) (a _ rfl)))))
    ·have YC:((x:Int).tmod 2==1)=true:=by rw[dB,show x%2=1 by omega];rfl
     rw[if_neg Uf] at UB UK;simp only[go_sem,aT,YC,U4,ue];refine Lu (f:=110) (fun o h=>Eq o (by simp only[aak];omega) (hnP _) h) Nb hc kr1 f1 fun Tp UP Tv=> ?_
     simp only[go_sem,shI];refine Lu (f:=111) (fun o h=>Kj o (by simp only[aak];omega) (hnF _) h) Nc (he.of_eq (Tv _ (by decide))) kr2 f2 fun Ub he1 Uz=> ?_
     have hP:grown 4608640128 qI 2 (fv PP.reverse) (.one c) Ub:=by rw[fv,List.map_reverse];exact UP.of_eq (Uz _ (by decide))
     have hE:grown 4608640129 3 1 (nP FF.reverse) (.one e) Ub:=by rw[nP,List.map_reverse];exact he1
     have hbA: ∀ i,i≠4608640128->i≠4608640129->Ub i=Tc i:=fun i a b=>(Uz i b).trans ((Tv i a).trans (hb i a b))
     have bFN:=(hbA 4608128448 (by decide) (by decide)).trans hB.bF;simp only[go_sem,bFN,Ui,kF];obtain⟨rP,hxP,hrP⟩:=hP.elems;refine uz (site:=4608896192) (id:=4608896192) (bytes:=16) (by rcases hrP with rfl|rfl<;>simp[kp,kr1]) (hB.gp.of_eq (hbA _ (by decide) (by decide))) hxP hP.gI (by simp only[aak,abh];omega) fun c2 ada r1 u1 VH Un T8=> ?_
     have bF2:=(Un 4608128448 (by decide) (by decide)).trans bFN;simp only[go_sem,bF2,Ui,kF];obtain⟨rE,hxE,hrE⟩:=(hE.of_eq (Un _ (by decide) (by decide))).elems;refine uz (site:=4608896448) (id:=4608896448) (bytes:=8) (by rcases hrE with rfl|rfl<;>simp[kf,kr2]) (hB.gf.of_eq ((Un _ (by decide) (by decide)).trans (hbA _ (by decide) (by decide)))) hxE hE.gI (by simp only[aak,abh];omega) fun c3 Xo r2 u2 hc3 hb5 YT=> ?_
     have Xp:=(hb5 4608128448 (by decide) (by decide)).trans bF2;have Ty: ∀ i,i≠4608640128->i≠4608640129->i≠4608896192->i≠4608896448->Xo i=Tc i:=fun i a b c d=>(hb5 i d d).trans ((Un i c c).trans (hbA i a b))
     have abg:grown 4608896192 qI 2 (fv f'.places) (.one c2) Xo:=by rw[UB,iw];exact VH.of_eq (hb5 _ (by decide) (by decide))
     have abf:grown 4608896448 3 1 (nP f'.TF) (.one c3) Xo:=by rw[UK,jC];exact hc3
     clear VH hc3;cases ho:f.outer with
     |true=>
      rw[ho] at Xp;simp only[go_sem,Xp,h0,Ui,U4,kF,s108,iW pt];refine⟨?_,?_⟩
      ·rcases hrP with rfl|rfl<;>rcases hrE with rfl|rfl<;>rcases T8 with ⟨rfl,rfl⟩|⟨rfl,rfl⟩|⟨rfl,rfl⟩<;>rcases YT with ⟨rfl,rfl⟩|⟨rfl,rfl⟩|⟨rfl,rfl⟩<;>kernel_rfl
      refine ih (k+1) (cM ls x) (Us.set x true) f' _ _ cd c2 c3 ?_ ?_ ?_ ?_ ?_ ?_ ?_ ?_ (by rw[aaD];exact hSl) (mW ok YP) TE (by omega) (by omega) Vw ?_
      ·simp only[go_sem,h0]
      ·simp only[go_sem,h2]
      ·simp only[go_sem,h8]
      ·simp only[go_sem,h9]
      ·simp only[go_sem,TJ]
      ·simp only[go_sem,Ui]
      ·simp only[go_sem]
      ·rw[Uq];refine⟨?_,?_,?_,?_,?_,?_,?_⟩
       ·exact(aj (nSi rfl).symm).trans ((aj (nSi rfl).symm).trans ((aj (nSi rfl).symm).trans ((Ty _ (nSi rfl).symm (nSi rfl).symm (nSi rfl).symm (nSi rfl).symm).trans hB.bS)))
       ·exact(aj (nBi rfl).symm).trans ((aj (nBi rfl).symm).trans ((aj (nBi rfl).symm).trans ((Ty _ (nBi rfl).symm (nBi rfl).symm (nBi rfl).symm (nBi rfl).symm).trans hB.bB)))
       ·exact(aj (by decide)).trans ((aj (by decide)).trans ((aj (by decide)).trans ((Ty _ (by decide) (by decide) (by decide) (by decide)).trans hB.b8)))
       ·rw[fL,VZ,Uj,ho];rfl
       ·rw[VW];exact hB.gd.of_eq ((aj (by decide)).trans ((aj (by decide)).trans ((aj (by decide)).trans (Ty _ (by decide) (by decide) (by decide) (by decide)))))
       ·exact abg.of_eq ((aj (by decide)).trans ((aj (by decide)).trans (aj (by decide))))
       ·exact abf.of_eq ((aj (by decide)).trans ((aj (by decide)).trans (aj (by decide))))
      ·intro Tg Td Yx Vs X5 q8 Yz Yu TL;refine hq Tg Td Yx Vs X5 (by rw[q8];simp only[go_sem]) (by rw[Yz];simp only[go_sem]) Yu fun id hn=> ?_
       have a: ∀ y,mS y->id≠y:=fun y hy e=>hn (.inl (e▸hy))
       exact(TL id hn).trans ((aj (a _ rfl)).trans ((aj (a _ rfl)).trans ((aj (a _ rfl)).trans (Ty id (a _ rfl) (a _ rfl) (a _ rfl) (a _ rfl)))))
     |false=>
      rw[ho] at Xp;simp only[go_sem,Xp,h0,TJ,Ui,U4,kF,w2,YH,s108,iW pt];refine⟨?_,?_⟩
      ·rcases hrP with rfl|rfl<;>rcases hrE with rfl|rfl<;>rcases T8 with ⟨rfl,rfl⟩|⟨rfl,rfl⟩|⟨rfl,rfl⟩<;>rcases YT with ⟨rfl,rfl⟩|⟨rfl,rfl⟩|⟨rfl,rfl⟩<;>kernel_rfl
      refine ih (k+1) (cM ls x) (Us.set x true) f' _ _ cd c2 c3 ?_ ?_ ?_ ?_ ?_ ?_ ?_ ?_ (by rw[aaD];exact hSl) (mW ok YP) TE (by omega) (by omega) Vw ?_
      ·simp only[go_sem,h0]
      ·simp only[go_sem,h2]
      ·simp only[go_sem,h8]
      ·simp only[go_sem,h9]
      ·simp only[go_sem,TJ]
      ·simp only[go_sem,Ui]
      ·simp only[go_sem]
      ·rw[Uq];refine⟨?_,?_,?_,?_,?_,?_,?_⟩
       ·exact(aj (nSi rfl).symm).trans ((aj (nSi rfl).symm).trans ((aj (nSi rfl).symm).trans ((Ty _ (nSi rfl).symm (nSi rfl).symm (nSi rfl).symm (nSi rfl).symm).trans hB.bS)))
       ·exact(aj (nBi rfl).symm).trans ((aj (nBi rfl).symm).trans ((aj (nBi rfl).symm).trans ((Ty _ (nBi rfl).symm (nBi rfl).symm (nBi rfl).symm (nBi rfl).symm).trans hB.bB)))
       ·exact(aj (by decide)).trans ((aj (by decide)).trans ((aj (by decide)).trans ((Ty _ (by decide) (by decide) (by decide) (by decide)).trans hB.b8)))
       ·rw[fL,VZ,Uj,ho];rfl
       ·rw[VW];exact hB.gd.of_eq ((aj (by decide)).trans ((aj (by decide)).trans ((aj (by decide)).trans (Ty _ (by decide) (by decide) (by decide) (by decide)))))
       ·exact abg.of_eq ((aj (by decide)).trans ((aj (by decide)).trans (aj (by decide))))
       ·exact abf.of_eq ((aj (by decide)).trans ((aj (by decide)).trans (aj (by decide))))
      ·intro Tg Td Yx Vs X5 q8 Yz Yu TL;refine hq Tg Td Yx Vs X5 (by rw[q8];simp only[go_sem]) (by rw[Yz];simp only[go_sem]) Yu fun id hn=> ?_
       have a: ∀ y,mS y->id≠y:=fun y hy e=>hn (.inl (e▸hy))
       exact(TL id hn).trans ((aj (a _ rfl)).trans ((aj (a _ rfl)).trans ((aj (a _ rfl)).trans (Ty id (a _ rfl) (a _ rfl) (a _ rfl) (a _ rfl)))))
end Go.Abs
