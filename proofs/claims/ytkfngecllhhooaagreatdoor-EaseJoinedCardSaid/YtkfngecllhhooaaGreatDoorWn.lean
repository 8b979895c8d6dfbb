/- A part. -/
import Derived.Test.YtkfngecllhhooaaGreatDoorWh
set_option linter.all false
set_option maxRecDepth 100000
set_option maxHeartbeats 16000000
namespace Go.Abs
section
variable{ls:List Let}{F:Nat}
theorem YP{e:List PV}(h:e.length=1):∃x0,e=[x0]:=by
 match e,h with
 |[a],_=>exact⟨a,rfl⟩
theorem YO{e:List PV}(h:e.length=2):∃x0 x1,e=[x0,x1]:=by
 match e,h with
 |[a,b],_=>exact⟨a,b,rfl⟩
structure LR (es fs:List (List PV)) (k:Nat):Prop where
 len:fs.length=es.length
 at':∀i,i<es.length->fs[i]?=if i<k\/es.length-1-i<k then es[es.length-1-i]? else es[i]?
theorem LR.start(es:List (List PV)):LR es es 0:=⟨rfl,fun i _=>by rw[if_neg (by omega)]⟩
theorem LR.step{es fs:List (List PV)}{k:Nat}{a b:List PV}(h:LR es fs k)(hk:k<es.length-1-k)(ha:es[k]?=some a)(hb:es[es.length-1-k]?=some b):
  fs[k]?=some a/\fs[es.length-1-k]?=some b/\LR es ((fs.set k b).set (es.length-1-k) a) (k+1):=by
 have hlen:=h.len;refine⟨?_,?_,⟨by rw[abV,abV];exact hlen,fun i hi=>?_⟩⟩
 .rw[h.at' k (by omega),if_neg (by omega),ha]
 .rw[h.at' _ (by omega),if_neg (by omega),hb]
 rw[abI,abV];by_cases e1:es.length-1-k=i
 .rw[if_pos e1,if_pos (by omega),if_pos (by omega),show es.length-1-i=k by omega,ha]
 rw[if_neg e1,abI];by_cases e2:k=i
 .subst e2;rw[if_pos rfl,if_pos (by omega),if_pos (by omega),hb]
 rw[if_neg e2,h.at' i hi];by_cases e3:i<k\/es.length-1-i<k
 .rw[if_pos e3,if_pos (by omega)]
 rw[if_neg e3,if_neg (by omega)]
theorem LR.done{es fs:List (List PV)}{k:Nat}(h:LR es fs k)(hk:¬k<es.length-1-k):fs=es.reverse:=by
 refine adk fun i=>?_;rcases Nat.lt_or_ge i es.length with hi|hi
 .rw[h.at' i hi,List.getElem?_reverse hi];by_cases e:i<k\/es.length-1-i<k
  .rw[if_pos e]
  rw[if_neg e,show es.length-1-i=i by omega]
 rw[abS (by rw[h.len];exact hi),abS (by rw[ab2];exact hi)]
def s0(id ty z:Nat)(es:List (List PV))(c:C)(blk:aw)(v:V)(aaf:aw):Prop:=v=.tup []/\grown id ty z es.reverse (.one c) aaf/\Kept (· =id) blk aaf
theorem OK{al:Al}{blk:aw}{id ty:Nat}{es:List (List PV)}{c:C}(o:es=[]\/al.ok id=true)(hl:es.length<=1000000)(hes:∀e∈es,e.length=1/\ ∀v∈e,v.norm=v)(h:grown id ty 1 es (.one c) blk):
  ∃v aaf,nQ S 104 [.one c] al blk v aaf/\s0 id ty 1 es c blk v aaf:=by
 refine dO c104 (aaW rfl) ?_;rcases h with ⟨rfl,h2⟩|⟨hne,g,h2,hC⟩
 .cases h2;have w0:IntKind.i64.wrap (((0:Nat):Int)-1)= -1:=by decide
  have hz:¬((0:Int)< -1):=by decide
  simp only[go_sem,i104,w0];refine aV (fun k env aaf=>k=0/\env 2=vi 0/\env 3=vi (-1)/\aaf=blk) 0 0 (aaj _) ?_ ?_
  .simp only[go_sem]
  rintro k env aaf _ ⟨rfl,h2,h3,rfl⟩
  simp only[go_sem,i104_l1,h2,h3,hz];exact⟨rfl,.inl ⟨rfl,rfl⟩,fun _ _=>rfl⟩
 cases h2;have o:=o.resolve_left hne;have w0:=iJ (a:=es.length) (by omega);simp only[go_sem,i104,w0];refine aV (fun k env aaf=>env 0=.one (.hsl id g 1 0 es.length)/\env 2=vi k/\env 3=vi ((es.length:Int)-1-(k:Int))/\ ∃fs,aaf id=(g,some (.arr ty 1 fs))/\LR es fs k/\Kept (· =id) blk aaf) 0 es.length (aan _) ?_ ?_
 .simp only[go_sem];refine⟨rfl,by simp,es,hC,LR.start es,Kept.refl _ _⟩
 rintro k env aaf hk ⟨h0,h2,h3,fs,hF,hI,hkp⟩
 by_cases hlt:k<es.length-1-k
 .have e1:((es.length:Int)-1-(k:Int))=((es.length-1-k:Nat):Int):=by omega
  rw[e1] at h3;have aak:((k:Int)<((es.length-1-k:Nat):Int)):=by omega
  have w1:=ak (n:=k) (by omega);have w2:IntKind.i64.wrap (((es.length-1-k:Nat):Int)-1)=((es.length:Int)-1-((k+1:Nat):Int)):=by rw[iJ (by omega)];omega
  obtain⟨a,ha⟩:=ao (show k<es.length by omega);obtain⟨b,hb⟩:=ao (show es.length-1-k<es.length by omega);obtain⟨fa,fb,hI2⟩:=hI.step hlt ha hb;obtain⟨la,na⟩:=hes a (aae ha);obtain⟨lb,nb⟩:=hes b (aae hb);obtain⟨x0,rfl⟩:=YP la;obtain⟨y0,rfl⟩:=YP lb;have agL:=na x0 (by simp);have agK:=nb y0 (by simp);have hfl:=hI.len;have hkj:¬(k=es.length-1-k):=by omega
  have anC:¬(es.length-1-k=k):=by omega
  have l1:k<fs.length:=by omega
  have l2:es.length-1-k<fs.length:=by omega
  have l3:k<es.length:=by omega
  have l4:es.length-1-k<es.length:=by omega
  simp only[go_sem,i104_l1,h0,h2,h3,hF,aak,fa,fb,w1,w2,o,l1,l3,l4,hkj,agL,agK,abI];refine⟨aK,_,rfl,hI2,?_⟩;exact(hkp.fY rfl _).fY rfl _
 have aak:¬((k:Int)<(es.length:Int)-1-(k:Int)):=by omega
 simp only[go_sem,i104_l1,h2,h3,aak];refine⟨rfl,?_,hkp⟩;rw[hI.done hlt] at hF;exact .inr ⟨by simpa using hne,g,by rw[ab2],hF⟩
theorem HN{al:Al}{blk:aw}{id ty:Nat}{es:List (List PV)}{c:C}(o:es=[]\/al.ok id=true)(hl:es.length<=1000000)(hes:∀e∈es,e.length=2/\ ∀v∈e,v.norm=v)(h:grown id ty 2 es (.one c) blk):
  ∃v aaf,nQ S 103 [.one c] al blk v aaf/\s0 id ty 2 es c blk v aaf:=by
 refine dO c103 (aaW rfl) ?_;rcases h with ⟨rfl,h2⟩|⟨hne,g,h2,hC⟩
 .cases h2;have w0:IntKind.i64.wrap (((0:Nat):Int)-1)= -1:=by decide
  have hz:¬((0:Int)< -1):=by decide
  simp only[go_sem,i103,w0];refine aV (fun k env aaf=>k=0/\env 2=vi 0/\env 3=vi (-1)/\aaf=blk) 0 0 (aaj _) ?_ ?_
  .simp only[go_sem]
  rintro k env aaf _ ⟨rfl,h2,h3,rfl⟩
  simp only[go_sem,i103_l1,h2,h3,hz];exact⟨rfl,.inl ⟨rfl,rfl⟩,fun _ _=>rfl⟩
 cases h2;have o:=o.resolve_left hne;have w0:=iJ (a:=es.length) (by omega);simp only[go_sem,i103,w0];refine aV (fun k env aaf=>env 0=.one (.hsl id g 2 0 es.length)/\env 2=vi k/\env 3=vi ((es.length:Int)-1-(k:Int))/\ ∃fs,aaf id=(g,some (.arr ty 2 fs))/\LR es fs k/\Kept (· =id) blk aaf) 0 es.length (aan _) ?_ ?_
 .simp only[go_sem];refine⟨rfl,by simp,es,hC,LR.start es,Kept.refl _ _⟩
 rintro k env aaf hk ⟨h0,h2,h3,fs,hF,hI,hkp⟩
 by_cases hlt:k<es.length-1-k
 .have e1:((es.length:Int)-1-(k:Int))=((es.length-1-k:Nat):Int):=by omega
  rw[e1] at h3;have aak:((k:Int)<((es.length-1-k:Nat):Int)):=by omega
  have w1:=ak (n:=k) (by omega);have w2:IntKind.i64.wrap (((es.length-1-k:Nat):Int)-1)=((es.length:Int)-1-((k+1:Nat):Int)):=by rw[iJ (by omega)];omega
  obtain⟨a,ha⟩:=ao (show k<es.length by omega);obtain⟨b,hb⟩:=ao (show es.length-1-k<es.length by omega);obtain⟨fa,fb,hI2⟩:=hI.step hlt ha hb;obtain⟨la,na⟩:=hes a (aae ha);obtain⟨lb,nb⟩:=hes b (aae hb);obtain⟨x0,x1,rfl⟩:=YO la;obtain⟨y0,y1,rfl⟩:=YO lb;have agL:=na x0 (by simp);have akP:=na x1 (by simp);have agK:=nb y0 (by simp);have akO:=nb y1 (by simp);have hfl:=hI.len;have hkj:¬(k=es.length-1-k):=by omega
  have anC:¬(es.length-1-k=k):=by omega
  have l1:k<fs.length:=by omega
  have l2:es.length-1-k<fs.length:=by omega
  have l3:k<es.length:=by omega
  have l4:es.length-1-k<es.length:=by omega
  simp only[go_sem,i103_l1,h0,h2,h3,hF,aak,fa,fb,w1,w2,o,l1,l3,l4,hkj,agL,akP,agK,akO,abI];refine⟨aK,_,rfl,hI2,?_⟩;exact(hkp.fY rfl _).fY rfl _
 have aak:¬((k:Int)<(es.length:Int)-1-(k:Int)):=by omega
 simp only[go_sem,i103_l1,h2,h3,aak];refine⟨rfl,?_,hkp⟩;rw[hI.done hlt] at hF;exact .inr ⟨by simpa using hne,g,by rw[ab2],hF⟩
theorem mj{site ty z:Nat}{es:List (List PV)}{c:C}{blk:aw}(h:grown site ty z es (.one c) blk):(es=[]/\cJ blk (.one c)=[])\/cJ blk (.one c)=[site]:=by
 rcases h with ⟨h1,h2⟩|⟨h1,g,h2,h3⟩
 .cases h2;exact .inl ⟨h1,rI⟩
 cases h2;exact .inr (show c9 blk 6 (.hsl site g z 0 es.length)=[site] from gR (n:=5) h3)
section
variable {al:Al} {Q:cU} {env:Env} {blk:aw} {os:List aj} {d:Option Nat}
theorem Qu{f id ty z:Nat}{es:List (List PV)}{c:C}(akD:∀ {al:Al} {blk:aw},es=[]\/al.ok id=true->grown id ty z es (.one c) blk->∃v aaf,nQ S f [.one c] al blk v aaf/\s0 id ty z es c blk v aaf)(hs:S.sites f=[f])(hg:grown id ty z es (.one c) blk)(oid:al.ok id=true)(hf:al.fs.contains f=true)
  (hK:∀aaf,grown id ty z es.reverse (.one c) aaf->(∀i,i≠id->aaf i=blk i)->RN S al os Q (put env d (.tup [])) aaf):gP S al (.sc f [.one c]) d os Q env blk:=by
 refine gb (P:=s0 id ty z es c blk) (holds_of ?_ ?_) (akD ?_ hg) ?_
 .show al.kY ([V.one c].map (cJ blk)).flatten=true;rcases mj hg with ⟨_,h⟩|h
  .simp[h,Al.kY]
  simp[h,Al.kY,oid]
 .show(S.sites f).all al.fs.contains=true;rw[hs];simp only[abu,abL,hf,acj]
 .rcases mj hg with ⟨h,_⟩|h
  .exact .inl h
  exact .inr (dA (by simp[h]))
 rintro v aaf ⟨rfl,h1,h2⟩
 exact hK aaf h1 h2
end
theorem SW:S.sites 103=[103]:=by kernel_rfl
theorem SX:S.sites 104=[104]:=by kernel_rfl
theorem qm(ok:dS F ls){x:Nat}(h:x<nD ls):cq ls x<nD ls:=xM ok.AN ok.hp h
abbrev qc(id:Nat):Prop:=cH id=83
structure FE (ls:List Let) (idS gS idB gB g8 gF:Nat) (sp:List Bool) (f:Fc) (cd cp cf:C) (blk:aw):Prop where
 bS:blk idS=(gS,some (.arr 4 1 (bP sp)))
 bB:blk idB=(gB,some (.arr 4 1 (bP (En ls))))
 b8:blk 5312000000=(g8,some (.var [.p (.bool false),.p .nils,.p .nils,.p .nils,.p (.bool false)]))
 bF:blk 5312128448=(gF,some (.var [.p (.bool f.aaw),cd,cp,cf,.p (.bool f.outer)]))
 gd:grown 5312512256 3 1 (nP f.aap) (.one cd) blk
 gp:grown 5312896192 Dv 2 (Ax f.places) (.one cp) blk
 gf:grown 5312896448 3 1 (nP f.aaS) (.one cf) blk
theorem Vd(ok:dS F ls){f:Fc}{x k:Nat}(hx:x<nD ls)(h:f.aap.length<=k/\f.places.length<=k*(2*F+2)/\f.aaS.length<=k*(2*F+2)):(f.add F ls x).aap.length<=k+1/\(f.add F ls x).places.length<=(k+1)*(2*F+2)/\(f.add F ls x).aaS.length<=(k+1)*(2*F+2):=by
 obtain⟨i1,i2,i3⟩:=h;rw[Nat.succ_mul];unfold Fc.add;by_cases h:x<2*ls.length
 .rw[if_pos h];simp only[aaY,aaz,aaL];exact⟨by omega,by omega,by omega⟩
 rw[if_neg h];have hj:(x-2*ls.length)/2<(ae ls).length:=by unfold nD at hx;omega
 have l1:=yy ok hj;have l2:=yz ok hj;refine⟨by simp only;omega,?_,?_⟩
 .simp only[aaY];split<;>(try rw[ab2])<;>omega
 simp only[aaY];split<;>(try rw[ab2])<;>omega
theorem Xt{al:Al}(ok:dS F ls)(hF:F<=1000)(okf:∀id,qc id->al.ok id=true){idS gS idB gB g8 gF d:Nat}(oS:al.ok idS=true)(nS:¬qc idS)(nB:¬qc idB)(nSB:idS≠idB)(f1:al.fs.contains 103=true)(f2:al.fs.contains 104=true)(hd:d<2*ls.length){Q:cU}:
  ∀(fuel k x:Nat) (sn':List Bool) (f:Fc) (env:Env) (blk:aw) (cd cp cf:C),env 0=.one (.p (xu F ls))->env 2=.one (.hsl idS gS 1 0 (2*ls.length))->env 8=.one (.aam 5312000000 g8 0)->env 9=vi ls.length->env 10=vi (ae ls).length->env 11=.one (.aam 5312128448 gF 0)->env 12=vi x->
   FE ls idS gS idB gB g8 gF (sn'.take (2*ls.length)) f cd cp cf blk->sn'.length=nD ls->x<nD ls->Inv (cq ls) (nD ls) d sn' x->mM sn'<fuel->(k+fuel<=5000000)->(f.aap.length<=k/\f.places.length<=k*(2*F+2)/\f.aaS.length<=k*(2*F+2))->
   (∀aah aaf cd' cp' cf',aah 8=env 8->aah 11=env 11->FE ls idS gS idB gB g8 gF ((cS (cq ls) fuel x sn').2.take (2*ls.length)) ((cS (cq ls) fuel x sn').1.foldl (Fc.add F ls) f) cd' cp' cf' aaf->(∀id,¬(qc id\/id=idS)->aaf id=blk id)->Q .normal aah aaf)->
   W S al (.loop i83_l1) (eT 0 Q) env blk:=by
 have hl:=ok.hl;have hal:(ae ls).length<=1000000:=abm (fC ls ls.length) hl;have hnd:nD ls<=4000000:=by unfold nD;omega
 have m2:=eV (a:=ls.length) (by omega);have k0:al.ok 5312000000=true:=okf _ rfl;have kF:al.ok 5312128448=true:=okf _ rfl;have kd0:al.ok 5312512192=true:=okf _ rfl;have kd:al.ok 5312512256=true:=okf _ rfl;have kp:al.ok 5312896192=true:=okf _ rfl;have kf:al.ok 5312896448=true:=okf _ rfl;have kr1:al.ok 5312640128=true:=okf _ rfl;have kr2:al.ok 5312640129=true:=okf _ rfl;have hm:=maps ok;intro fuel
 induction fuel with
 |zero=>intro k x sn' f env blk cd cp cf _ _ _ _ _ _ _ _ _ _ _ h;omega
 |succ fuel ih=>
  intro k x sn' f env blk cd cp cf h0 h2 h8 h9 h10 h11 h12 hB hSl hxn hi hu hk hlen hq;have hle:=hm.le;obtain⟨l1,l2,l3⟩:=hlen;have arw:k*(2*F+2)<=5000000*2002:=Nat.mul_le_mul (by omega) (by omega);have ab8:=Vd ok hxn ⟨l1,l2,l3⟩;unfold cS at hq;have nSi:∀ {a:Nat},qc a->a≠idS:=fun h e=>nS (e▸h);have nBi:∀ {a:Nat},qc a->a≠idB:=fun h e=>nB (e▸h);have nF:¬(5312128448=idS):=nSi rfl;refine dQ ?_;cases hs:sn'.getD x true with
  |true=>
   have hxd:=hi.i4 hs;have hlt:x<2*ls.length:=by omega
   have aak:((x:Int)<((2*ls.length:Nat):Int)):=by omega
   rw[hs] at hq;simp only[if_true] at hq;have hb:(sn'.take (2*ls.length))[x]?=some true:=by
    have h1:=Dh hlt (show 2*ls.length<=sn'.length by omega);rw[show sn sn' x=true from hs,aaC] at h1;have hx2:x<(sn'.take (2*ls.length)).length:=by rw[aa2];omega
    obtain⟨b,hb⟩:=ao hx2;rw[hb] at h1 ⊢;exact congrArg some h1
   have hbp:=l5 hb;simp only[go_sem,i83_l1,h0,h2,h9,h12,m2,aak,hlt,hB.bS,hbp,oS];exact hq _ _ cd cp cf (by simp only[go_sem]) (by simp only[go_sem]) hB (fun _ _=>rfl)
  |false=>
   have hsx:sn'[x]?=some false:=by
    rw[aaC] at hs;cases h1:sn'[x]? with
    |none=>rw[h1] at hs;cases hs
    |some b=>rw[h1] at hs;exact congrArg some hs
   have hun:=nW hsx;have pt:=KO ok x (by unfold nD at hxn;exact hxn);have hst:=hi.step hm hSl hxn hs;rw[hs] at hq;simp only[aaE,if_false,acT] at hq;by_cases hd2:x<2*ls.length
   .have aak:((x:Int)<((2*ls.length:Nat):Int)):=by omega
    have hb:(sn'.take (2*ls.length))[x]?=some false:=by rw[aby,if_pos hd2];exact hsx
    have hbp:=l5 hb;have aaH:=Ah (sn'.take (2*ls.length)) x true;rw[vZ] at aaH;have ahb:f.add F ls x={f with aap:=f.aap++[x]}:=by unfold Fc.add;rw[if_pos hd2]
    simp only[go_sem,i83_l1,h2,h9,h11,h12,m2,aak,hd2,hB.bS,hB.bF,hbp,aaH,oS,kF,kd0,nF];refine xr (site:=5312512256) (id:=5312512256) (bytes:=8) (xs:=[[.int .i64 (x:Int)]]) (rd:=[5312512192]) (by simp[kd,kd0]) (hB.gd.of_eq ((af (by decide)).trans (af (nSi rfl)))) (by simp[aO,aa]) (.inl rfl) (by simp only[aau,aaz,aaL];omega) fun c aal hc hb2=>?_;have afP:∀i,i≠5312512192->i≠5312512256->i≠idS->aal i=blk i:=fun i a b c=>(hb2 i b b).trans ((af a).trans (af c))
    have ara:=(hb2 idS (nSi rfl).symm (nSi rfl).symm).trans ((af (nSi rfl).symm).trans jy);have bF2:=(afP 5312128448 (by decide) (by decide) (nSi rfl)).trans hB.bF;simp only[go_sem,bF2,h0,h11,h12,kF,s67,jI pt];refine ih (k+1) (cq ls x) (sn'.set x true) (f.add F ls x) _ _ c cp cf ?_ ?_ ?_ ?_ ?_ ?_ ?_ ?_ (by rw[abV];exact hSl) (qm ok hxn) hst (by omega) (by omega) ab8 ?_
    .simp only[go_sem,h0]
    .simp only[go_sem,h2]
    .simp only[go_sem,h8]
    .simp only[go_sem,h9]
    .simp only[go_sem,h10]
    .simp only[go_sem,h11]
    .simp only[go_sem]
    .rw[ahb];refine⟨?_,?_,?_,jy,?_,?_,?_⟩
     .exact(af (nSi rfl).symm).trans ara
     .exact(af (nBi rfl).symm).trans ((afP _ (nBi rfl).symm (nBi rfl).symm nSB.symm).trans hB.bB)
     .exact(af (by decide)).trans ((afP _ (by decide) (by decide) (nSi rfl)).trans hB.b8)
     .exact(vk _ _▸hc.of_eq (af (by decide)))
     .exact(hB.gp.of_eq (afP _ (by decide) (by decide) (nSi rfl))).of_eq (af (by decide))
     exact(hB.gf.of_eq (afP _ (by decide) (by decide) (nSi rfl))).of_eq (af (by decide))
    intro aah aaf cd' cp' cf' q8 q11 hFE hkp;refine hq aah aaf cd' cp' cf' (by rw[q8];simp only[go_sem]) (by rw[q11];simp only[go_sem]) hFE fun id hn=>?_;have a:∀y,qc y->id≠y:=fun y hy e=>hn (.inl (e▸hy));exact(hkp id hn).trans ((af (a _ rfl)).trans (afP id (a _ rfl) (a _ rfl) fun e=>hn (.inr e)))
   have hj:(x-2*ls.length)/2<(ae ls).length:=by unfold nD at hxn;omega
   have hpr:=Yu ok hF hj;have lP:=yy ok hj;have lF:=yz ok hj;have hd':¬((x:Int)<((2*ls.length:Nat):Int)):=by omega
   have ws:=xB (a:=x) (b:=2*ls.length) (by omega) (by omega);have wq:=wrap_small (n:=(x-2*ls.length)/2) (by omega);have w2:=lB (a:=(ae ls).length) (by omega) (by omega);have ajb:((((x-2*ls.length)/2:Nat):Int)==(((ae ls).length-1:Nat):Int))=decide ((x-2*ls.length)/2+1=(ae ls).length):=by
    by_cases h:(x-2*ls.length)/2+1=(ae ls).length
    .rw[decide_eq_true h];simp;omega
    rw[decide_eq_false h];simp;omega
   have abc:(f.add F ls x).outer=(f.outer||decide ((x-2*ls.length)/2+1=(ae ls).length)):=by unfold Fc.add;rw[if_neg hd2]
   have acY:(f.add F ls x).aaw=f.aaw:=by unfold Fc.add;rw[if_neg hd2]
   have acV:(f.add F ls x).aap=f.aap:=by unfold Fc.add;rw[if_neg hd2]
   have abp:(f.add F ls x).places=f.places++(if x%2=0 then ie F ls ((x-2*ls.length)/2) else (ie F ls ((x-2*ls.length)/2)).reverse):=by unfold Fc.add;rw[if_neg hd2]
   have aei:(f.add F ls x).aaS=f.aaS++(if x%2=0 then ow F ls ((x-2*ls.length)/2) else (ow F ls ((x-2*ls.length)/2)).reverse):=by unfold Fc.add;rw[if_neg hd2]
   generalize f.add F ls x=f' at abc acY acV abp aei hq ab8;have lo1:S.lone 5312640128=false:=by kernel_rfl
   have sc1:∀l:List (Nat×Nat),((Ax l).all fun e=>e.all PV.scalar)=true:=fun l=>by simp[PV.scalar]
   have sc2:∀l:List Nat,((nP l).all fun e=>e.all PV.scalar)=true:=fun l=>by simp[PV.scalar]
   have hnP:∀l:List (Nat×Nat),∀e∈Ax l,e.length=2/\ ∀v∈e,v.norm=v:=fun l e he=>by obtain⟨a,_,rfl⟩:=aaF.1 he;exact⟨rfl,fun v hv=>by simp at hv;rcases hv with rfl|rfl<;>rfl⟩
   have hnF:∀l:List Nat,∀e∈nP l,e.length=1/\ ∀v∈e,v.norm=v:=fun l e he=>by obtain⟨a,_,rfl⟩:=aaF.1 he;exact⟨rfl,fun v hv=>by simp at hv;rcases hv with rfl;rfl⟩
   have ED:S.shared 103=true:=by kernel_rfl
   have shI:S.shared 104=true:=by kernel_rfl
   have htk:(sn'.set x true).take (2*ls.length)=sn'.take (2*ls.length):=v6 (by omega);generalize ie F ls ((x-2*ls.length)/2)=PP at*;generalize ow F ls ((x-2*ls.length)/2)=FF at*;simp only[go_sem,i83_l1,h0,h9,h12,m2,hd',ws,wq,bY,dZ,s102];refine Xn (by simp[kr1,kr2]) hpr lo1 (sc1 _) (sc2 _) fun c e aao hc he hb=>?_;by_cases hev:x%2=0
   .have agG:((x:Int).tmod 2==1)=false:=by rw[iw,hev];rfl
    rw[if_pos hev] at abp aei;have hP:=hc;have hE:=he;have hbA:∀i,i≠5312640128->i≠5312640129->aao i=blk i:=hb;have bFN:=(hbA 5312128448 (by decide) (by decide)).trans hB.bF;simp only[go_sem,bY,agG,bFN,h11,h12,kF];obtain⟨rP,hxP,hrP⟩:=hP.elems;refine mD (site:=5312896192) (id:=5312896192) (bytes:=16) (by rcases hrP with rfl|rfl<;>simp[kp,kr1]) (hB.gp.of_eq (hbA _ (by decide) (by decide))) hxP hP.gQ (by simp only[aau];omega) fun c2 aaO r1 u1 hc2 hb4 hr1=>?_
    have bF2:=(hb4 5312128448 (by decide) (by decide)).trans bFN;simp only[go_sem,bF2,h11,kF];obtain⟨rE,hxE,hrE⟩:=(hE.of_eq (hb4 _ (by decide) (by decide))).elems;refine mD (site:=5312896448) (id:=5312896448) (bytes:=8) (by rcases hrE with rfl|rfl<;>simp[kf,kr2]) (hB.gf.of_eq ((hb4 _ (by decide) (by decide)).trans (hbA _ (by decide) (by decide)))) hxE hE.gQ (by simp only[aau];omega) fun c3 adO r2 u2 hc3 hb5 hr2=>?_
    have bF3:=(hb5 5312128448 (by decide) (by decide)).trans bF2;have aas:∀i,i≠5312640128->i≠5312640129->i≠5312896192->i≠5312896448->adO i=blk i:=fun i a b c d=>(hb5 i d d).trans ((hb4 i c c).trans (hbA i a b));have aha:grown 5312896192 Dv 2 (Ax f'.places) (.one c2) adO:=by rw[abp,rK];exact hc2.of_eq (hb5 _ (by decide) (by decide))
    have ag9:grown 5312896448 3 1 (nP f'.aaS) (.one c3) adO:=by rw[aei,vk];exact hc3
    clear hc2 hc3;cases ho:f.outer with
    |true=>
     rw[ho] at bF3;simp only[go_sem,bF3,h0,h11,h12,kF,s67,jI pt];refine⟨?_,?_⟩
     .rcases hrP with rfl|rfl<;>rcases hrE with rfl|rfl<;>rcases hr1 with ⟨rfl,rfl⟩|⟨rfl,rfl⟩|⟨rfl,rfl⟩<;>rcases hr2 with ⟨rfl,rfl⟩|⟨rfl,rfl⟩|⟨rfl,rfl⟩<;>kernel_rfl
     refine ih (k+1) (cq ls x) (sn'.set x true) f' _ _ cd c2 c3 ?_ ?_ ?_ ?_ ?_ ?_ ?_ ?_ (by rw[abV];exact hSl) (qm ok hxn) hst (by omega) (by omega) ab8 ?_
     .simp only[go_sem,h0]
     .simp only[go_sem,h2]
     .simp only[go_sem,h8]
     .simp only[go_sem,h9]
     .simp only[go_sem,h10]
     .simp only[go_sem,h11]
     .simp only[go_sem]
     .rw[htk];refine⟨?_,?_,?_,?_,?_,?_,?_⟩
      .exact(af (nSi rfl).symm).trans ((af (nSi rfl).symm).trans ((af (nSi rfl).symm).trans ((aas _ (nSi rfl).symm (nSi rfl).symm (nSi rfl).symm (nSi rfl).symm).trans hB.bS)))
      .exact(af (nBi rfl).symm).trans ((af (nBi rfl).symm).trans ((af (nBi rfl).symm).trans ((aas _ (nBi rfl).symm (nBi rfl).symm (nBi rfl).symm (nBi rfl).symm).trans hB.bB)))
      .exact(af (by decide)).trans ((af (by decide)).trans ((af (by decide)).trans ((aas _ (by decide) (by decide) (by decide) (by decide)).trans hB.b8)))
      .rw[jy,acY,abc,ho];rfl
      .rw[acV];exact hB.gd.of_eq ((af (by decide)).trans ((af (by decide)).trans ((af (by decide)).trans (aas _ (by decide) (by decide) (by decide) (by decide)))))
      .exact aha.of_eq ((af (by decide)).trans ((af (by decide)).trans (af (by decide))))
      exact ag9.of_eq ((af (by decide)).trans ((af (by decide)).trans (af (by decide))))
     intro aah aaf cd' cp' cf' q8 q11 hFE hkp;refine hq aah aaf cd' cp' cf' (by rw[q8];simp only[go_sem]) (by rw[q11];simp only[go_sem]) hFE fun id hn=>?_;have a:∀y,qc y->id≠y:=fun y hy e=>hn (.inl (e▸hy));exact(hkp id hn).trans ((af (a _ rfl)).trans ((af (a _ rfl)).trans ((af (a _ rfl)).trans (aas id (a _ rfl) (a _ rfl) (a _ rfl) (a _ rfl)))))
    |false=>
     rw[ho] at bF3;simp only[go_sem,bF3,h0,h10,h11,h12,kF,w2,ajb,s67,jI pt];refine⟨?_,?_⟩
     .rcases hrP with rfl|rfl<;>rcases hrE with rfl|rfl<;>rcases hr1 with ⟨rfl,rfl⟩|⟨rfl,rfl⟩|⟨rfl,rfl⟩<;>rcases hr2 with ⟨rfl,rfl⟩|⟨rfl,rfl⟩|⟨rfl,rfl⟩<;>kernel_rfl
     refine ih (k+1) (cq ls x) (sn'.set x true) f' _ _ cd c2 c3 ?_ ?_ ?_ ?_ ?_ ?_ ?_ ?_ (by rw[abV];exact hSl) (qm ok hxn) hst (by omega) (by omega) ab8 ?_
     .simp only[go_sem,h0]
     .simp only[go_sem,h2]
     .simp only[go_sem,h8]
     .simp only[go_sem,h9]
     .simp only[go_sem,h10]
     .simp only[go_sem,h11]
     .simp only[go_sem]
     .rw[htk];refine⟨?_,?_,?_,?_,?_,?_,?_⟩
      .exact(af (nSi rfl).symm).trans ((af (nSi rfl).symm).trans ((af (nSi rfl).symm).trans ((aas _ (nSi rfl).symm (nSi rfl).symm (nSi rfl).symm (nSi rfl).symm).trans hB.bS)))
      .exact(af (nBi rfl).symm).trans ((af (nBi rfl).symm).trans ((af (nBi rfl).symm).trans ((aas _ (nBi rfl).symm (nBi rfl).symm (nBi rfl).symm (nBi rfl).symm).trans hB.bB)))
      .exact(af (by decide)).trans ((af (by decide)).trans ((af (by decide)).trans ((aas _ (by decide) (by decide) (by decide) (by decide)).trans hB.b8)))
      .rw[jy,acY,abc,ho];rfl
      .rw[acV];exact hB.gd.of_eq ((af (by decide)).trans ((af (by decide)).trans ((af (by decide)).trans (aas _ (by decide) (by decide) (by decide) (by decide)))))
      .exact aha.of_eq ((af (by decide)).trans ((af (by decide)).trans (af (by decide))))
      exact ag9.of_eq ((af (by decide)).trans ((af (by decide)).trans (af (by decide))))
     intro aah aaf cd' cp' cf' q8 q11 hFE hkp;refine hq aah aaf cd' cp' cf' (by rw[q8];simp only[go_sem]) (by rw[q11];simp only[go_sem]) hFE fun id hn=>?_;have a:∀y,qc y->id≠y:=fun y hy e=>hn (.inl (e▸hy));exact(hkp id hn).trans ((af (a _ rfl)).trans ((af (a _ rfl)).trans ((af (a _ rfl)).trans (aas id (a _ rfl) (a _ rfl) (a _ rfl) (a _ rfl)))))
   have agG:((x:Int).tmod 2==1)=true:=by rw[iw,show x%2=1 by omega];rfl
   rw[if_neg hev] at abp aei;simp only[go_sem,bY,agG,h12,ED];refine Qu (f:=103) (fun o h=>HN o (by simp only[aau];omega) (hnP _) h) SW hc kr1 f1 fun aal hc1 hb2=>?_;simp only[go_sem,shI];refine Qu (f:=104) (fun o h=>OK o (by simp only[aau];omega) (hnF _) h) SX (he.of_eq (hb2 _ (by decide))) kr2 f2 fun aaB he1 hb3=>?_;have hP:grown 5312640128 Dv 2 (Ax PP.reverse) (.one c) aaB:=by rw[Ax,List.map_reverse];exact hc1.of_eq (hb3 _ (by decide))
   have hE:grown 5312640129 3 1 (nP FF.reverse) (.one e) aaB:=by rw[nP,List.map_reverse];exact he1
   have hbA:∀i,i≠5312640128->i≠5312640129->aaB i=blk i:=fun i a b=>(hb3 i b).trans ((hb2 i a).trans (hb i a b));have bFN:=(hbA 5312128448 (by decide) (by decide)).trans hB.bF;simp only[go_sem,bFN,h11,kF];obtain⟨rP,hxP,hrP⟩:=hP.elems;refine mD (site:=5312896192) (id:=5312896192) (bytes:=16) (by rcases hrP with rfl|rfl<;>simp[kp,kr1]) (hB.gp.of_eq (hbA _ (by decide) (by decide))) hxP hP.gQ (by simp only[aau,ab2];omega) fun c2 aaO r1 u1 hc2 hb4 hr1=>?_
   have bF2:=(hb4 5312128448 (by decide) (by decide)).trans bFN;simp only[go_sem,bF2,h11,kF];obtain⟨rE,hxE,hrE⟩:=(hE.of_eq (hb4 _ (by decide) (by decide))).elems;refine mD (site:=5312896448) (id:=5312896448) (bytes:=8) (by rcases hrE with rfl|rfl<;>simp[kf,kr2]) (hB.gf.of_eq ((hb4 _ (by decide) (by decide)).trans (hbA _ (by decide) (by decide)))) hxE hE.gQ (by simp only[aau,ab2];omega) fun c3 adO r2 u2 hc3 hb5 hr2=>?_
   have bF3:=(hb5 5312128448 (by decide) (by decide)).trans bF2;have aas:∀i,i≠5312640128->i≠5312640129->i≠5312896192->i≠5312896448->adO i=blk i:=fun i a b c d=>(hb5 i d d).trans ((hb4 i c c).trans (hbA i a b));have aha:grown 5312896192 Dv 2 (Ax f'.places) (.one c2) adO:=by rw[abp,rK];exact hc2.of_eq (hb5 _ (by decide) (by decide))
   have ag9:grown 5312896448 3 1 (nP f'.aaS) (.one c3) adO:=by rw[aei,vk];exact hc3
   clear hc2 hc3;cases ho:f.outer with
   |true=>
    rw[ho] at bF3;simp only[go_sem,bF3,h0,h11,h12,kF,s67,jI pt];refine⟨?_,?_⟩
    .rcases hrP with rfl|rfl<;>rcases hrE with rfl|rfl<;>rcases hr1 with ⟨rfl,rfl⟩|⟨rfl,rfl⟩|⟨rfl,rfl⟩<;>rcases hr2 with ⟨rfl,rfl⟩|⟨rfl,rfl⟩|⟨rfl,rfl⟩<;>kernel_rfl
    refine ih (k+1) (cq ls x) (sn'.set x true) f' _ _ cd c2 c3 ?_ ?_ ?_ ?_ ?_ ?_ ?_ ?_ (by rw[abV];exact hSl) (qm ok hxn) hst (by omega) (by omega) ab8 ?_
    .simp only[go_sem,h0]
    .simp only[go_sem,h2]
    .simp only[go_sem,h8]
    .simp only[go_sem,h9]
    .simp only[go_sem,h10]
    .simp only[go_sem,h11]
    .simp only[go_sem]
    .rw[htk];refine⟨?_,?_,?_,?_,?_,?_,?_⟩
     .exact(af (nSi rfl).symm).trans ((af (nSi rfl).symm).trans ((af (nSi rfl).symm).trans ((aas _ (nSi rfl).symm (nSi rfl).symm (nSi rfl).symm (nSi rfl).symm).trans hB.bS)))
     .exact(af (nBi rfl).symm).trans ((af (nBi rfl).symm).trans ((af (nBi rfl).symm).trans ((aas _ (nBi rfl).symm (nBi rfl).symm (nBi rfl).symm (nBi rfl).symm).trans hB.bB)))
     .exact(af (by decide)).trans ((af (by decide)).trans ((af (by decide)).trans ((aas _ (by decide) (by decide) (by decide) (by decide)).trans hB.b8)))
     .rw[jy,acY,abc,ho];rfl
     .rw[acV];exact hB.gd.of_eq ((af (by decide)).trans ((af (by decide)).trans ((af (by decide)).trans (aas _ (by decide) (by decide) (by decide) (by decide)))))
     .exact aha.of_eq ((af (by decide)).trans ((af (by decide)).trans (af (by decide))))
     exact ag9.of_eq ((af (by decide)).trans ((af (by decide)).trans (af (by decide))))
    intro aah aaf cd' cp' cf' q8 q11 hFE hkp;refine hq aah aaf cd' cp' cf' (by rw[q8];simp only[go_sem]) (by rw[q11];simp only[go_sem]) hFE fun id hn=>?_;have a:∀y,qc y->id≠y:=fun y hy e=>hn (.inl (e▸hy));exact(hkp id hn).trans ((af (a _ rfl)).trans ((af (a _ rfl)).trans ((af (a _ rfl)).trans (aas id (a _ rfl) (a _ rfl) (a _ rfl) (a _ rfl)))))
   |false=>
    rw[ho] at bF3;simp only[go_sem,bF3,h0,h10,h11,h12,kF,w2,ajb,s67,jI pt];refine⟨?_,?_⟩
    .rcases hrP with rfl|rfl<;>rcases hrE with rfl|rfl<;>rcases hr1 with ⟨rfl,rfl⟩|⟨rfl,rfl⟩|⟨rfl,rfl⟩<;>rcases hr2 with ⟨rfl,rfl⟩|⟨rfl,rfl⟩|⟨rfl,rfl⟩<;>kernel_rfl
    refine ih (k+1) (cq ls x) (sn'.set x true) f' _ _ cd c2 c3 ?_ ?_ ?_ ?_ ?_ ?_ ?_ ?_ (by rw[abV];exact hSl) (qm ok hxn) hst (by omega) (by omega) ab8 ?_
    .simp only[go_sem,h0]
    .simp only[go_sem,h2]
    .simp only[go_sem,h8]
    .simp only[go_sem,h9]
    .simp only[go_sem,h10]
    .simp only[go_sem,h11]
    .simp only[go_sem]
    .rw[htk];refine⟨?_,?_,?_,?_,?_,?_,?_⟩
     .exact(af (nSi rfl).symm).trans ((af (nSi rfl).symm).trans ((af (nSi rfl).symm).trans ((aas _ (nSi rfl).symm (nSi rfl).symm (nSi rfl).symm (nSi rfl).symm).trans hB.bS)))
     .exact(af (nBi rfl).symm).trans ((af (nBi rfl).symm).trans ((af (nBi rfl).symm).trans ((aas _ (nBi rfl).symm (nBi rfl).symm (nBi rfl).symm (nBi rfl).symm).trans hB.bB)))
     .exact(af (by decide)).trans ((af (by decide)).trans ((af (by decide)).trans ((aas _ (by decide) (by decide) (by decide) (by decide)).trans hB.b8)))
     .rw[jy,acY,abc,ho];rfl
     .rw[acV];exact hB.gd.of_eq ((af (by decide)).trans ((af (by decide)).trans ((af (by decide)).trans (aas _ (by decide) (by decide) (by decide) (by decide)))))
     .exact aha.of_eq ((af (by decide)).trans ((af (by decide)).trans (af (by decide))))
     exact ag9.of_eq ((af (by decide)).trans ((af (by decide)).trans (af (by decide))))
    intro aah aaf cd' cp' cf' q8 q11 hFE hkp;refine hq aah aaf cd' cp' cf' (by rw[q8];simp only[go_sem]) (by rw[q11];simp only[go_sem]) hFE fun id hn=>?_;have a:∀y,qc y->id≠y:=fun y hy e=>hn (.inl (e▸hy));exact(hkp id hn).trans ((af (a _ rfl)).trans ((af (a _ rfl)).trans ((af (a _ rfl)).trans (aas id (a _ rfl) (a _ rfl) (a _ rfl) (a _ rfl)))))
structure cV (F:Nat) (ls:List Let):Prop where
 ok:dS F ls
 len:ls.length<=400
 cr:aA Let.aD ls<=200
 fing:F<=40
 ne:ls≠[]
 first:∃l,ls[0]?=some l/\l.aH=true
 even:aA Let.aH ls%2=0
 bad:∀l∈ls,ch F l=false
 chk:ay F ls=0
 nw:dU ls=aA Let.aH ls+aA Let.aD ls/2+2
theorem jh{f:Int}(h:ay f ls=0)(hne:ls≠[]):∃F:Nat,f=(F:Int)/\cV F ls:=by
 have h0:=h;unfold ay at h;by_cases h1:400<ls.length\/200<aA Let.aD ls
 .rw[if_pos h1] at h;cases h
 rw[if_neg h1] at h;by_cases h2:f<0\/40<f
 .rw[if_pos h2] at h;cases h
 rw[if_neg h2,if_neg hne] at h;cases hv:ib f ls with
 |false=>rw[hv] at h;simp at h
 |true=>
  obtain⟨F,rfl⟩:=abX (show 0<=f by omega);refine⟨F,rfl,?_⟩;unfold ib at hv;simp only[aay] at hv;obtain⟨⟨⟨v1,v2⟩,v3⟩,v4⟩:=hv;obtain⟨hb1,hrk,hcr⟩:=j4.1 v3;have hbl:∀l∈ls,ch F l=false:=fun l hl=>by simpa using acW.1 hb1 l hl
  have hg:iV F ls:=fun l hl hp=>((dG hp).1 (hbl l hl)).1.1.1;obtain⟨g1,g2⟩:=(jD hg).1 hrk;obtain⟨l0,hl0⟩:=ao (abh.2 hne);rw[hl0] at v1;exact⟨⟨by omega,⟨g1,g2⟩,hcr,fun l hl=>fU (hbl l hl)⟩,by omega,by omega,by omega,hne,⟨l0,hl0,v1⟩,by simpa using v2,hbl,h0,by simpa using v4⟩
def QC(F:Nat)(ls:List Let)(idS gS:Nat)(x:Nat)(sn':List Bool)(blk:aw)(v:V)(aaf:aw):Prop:=
 ∃f cd cp cf,f=((cS (cq ls) (nD ls+1) x sn').1).foldl (Fc.add F ls) (Fc.new ls x)/\v=.agg [.p (.bool f.aaw),cd,cp,cf,.p (.bool f.outer)]/\aaf idS=(gS,some (.arr 4 1 (bP ((cS (cq ls) (nD ls+1) x sn').2.take (2*ls.length)))))/\
  grown 5312512256 3 1 (nP f.aap) (.one cd) aaf/\grown 5312896192 Dv 2 (Ax f.places) (.one cp) aaf/\grown 5312896448 3 1 (nP f.aaS) (.one cf) aaf/\Kept (fun id=>qc id\/id=idS) blk aaf
theorem Xs{al:Al}{F:Nat}{ls:List Let}(ok:dS F ls)(hF:F<=1000)(okf:∀id,qc id->al.ok id=true){idS gS idB gB x:Nat}(oS:al.ok idS=true)(oB:al.ok idB=true)(nS:¬qc idS)(nB:¬qc idB)(nSB:idS≠idB)(f1:al.fs.contains 103=true)(f2:al.fs.contains 104=true){sn':List Bool}{blk:aw}
  (hx:x<2*ls.length) (hSl:sn'.length=nD ls) (hcl:Aw (cq ls) (nD ls) sn') (hs:sn'.getD x true=false) (bS:blk idS=(gS,some (.arr 4 1 (bP (sn'.take (2*ls.length)))))) (bB:blk idB=(gB,some (.arr 4 1 (bP (En ls))))):
  ∃v aaf,nQ S 83 [.one (.p (xu F ls)),vi x,.one (.hsl idS gS 1 0 (2*ls.length)),.one (.hsl idB gB 1 0 ls.length)] al blk v aaf/\QC F ls idS gS x sn' blk v aaf:=by
 have hl:=ok.hl;have hal:(ae ls).length<=ls.length:=fC ls ls.length;have hnd:nD ls<=4000000:=by unfold nD;omega
 have k0:al.ok 5312000000=true:=okf _ rfl;have kF:al.ok 5312128448=true:=okf _ rfl;have wq:=wrap_small (n:=x/2) (by omega);have hxl:x/2<ls.length:=by omega
 have arx:=l5 (UQ hxl);have nSi:∀ {a:Nat},qc a->a≠idS:=fun h e=>nS (e▸h);have nBi:∀ {a:Nat},qc a->a≠idB:=fun h e=>nB (e▸h);have nB0:¬(idB=5312000000):=fun e=>nBi rfl e.symm;have hul:=m9 sn';refine dO c83 (aaW rfl) ?_;simp only[go_sem,i83,bB,nB0,k0,kF,oB,bY,dZ,wq,hxl,arx];refine⟨aK,?_⟩;refine Xt ok hF okf (idS:=idS) (gS:=gS) (idB:=idB) (gB:=gB) (g8:=(blk 5312000000).1+1) (gF:=(blk 5312128448).1+1) (d:=x) oS nS nB nSB f1 f2 hx (nD ls+1) 0 x sn' (Fc.new ls x) _ _ (.p .nils) (.p .nils) (.p .nils) ?_ ?_ ?_ ?_ ?_ ?_ ?_ ?_ hSl (by unfold nD;omega) (Inv.start hcl hs) (by omega) (by omega) ⟨aaj _,aan _,aan _⟩ ?_
 .simp only[go_sem]
 .simp only[go_sem]
 .simp only[go_sem]
 .simp only[go_sem]
 .simp only[go_sem]
 .simp only[go_sem]
 .simp only[go_sem]
 .refine⟨?_,?_,?_,?_,grown.nil,grown.nil,grown.nil⟩
  .simp only[af (nSi (a:=5312000000) rfl).symm,af (nSi (a:=5312128448) rfl).symm,bS]
  .simp only[af (nBi (a:=5312000000) rfl).symm,af (nBi (a:=5312128448) rfl).symm,bB]
  .simp only[go_sem]
  simp only[go_sem,Fc.new]
 intro aah aaf cd' cp' cf' q8 q11 hFE hkp;simp only[go_sem] at q8 q11;have h8:=hFE.b8;have hf:=hFE.bF;simp only[go_sem,i83_r2,q8,q11,h8,hf,k0,kF];refine⟨_,cd',cp',cf',rfl,rfl,?_,?_,?_,?_,fun id hn=>?_⟩
 .exact(af (nSi rfl).symm).trans hFE.bS
 .exact hFE.gd.of_eq (af (by decide))
 .exact hFE.gp.of_eq (af (by decide))
 .exact hFE.gf.of_eq (af (by decide))
 have a:∀y,qc y->id≠y:=fun y hy e=>hn (.inl (e▸hy));refine(af (a _ rfl)).trans ((hkp id hn).trans ?_);simp only[af (a 5312000000 rfl),af (a 5312128448 rfl)]
theorem eF{s1 t1 z1:Nat}{es:List (List PV)}{c:C}{x:PV}{blk:aw}(h:grown s1 t1 z1 es (.one c) blk):fH blk (.tup [.one c,.one (.p x)])=some (.tup [.one (ah t1 z1 es),.one (.p x)]):=by obtain⟨c',o,hc,h2,h3⟩:=h.fR;cases hc;rcases h3 with rfl|rfl<;>simp[fH,jv,ii,ef,fJ,h2,(show Go.Abs.fR blk (.p x)=some (.p x,[],[]) from rfl),apart,kN,fL,kx]
theorem vd{blk:aw}{id g g0 z o l ty sz:Nat}{es:List (List PV)}(h:blk id=(g0,some (.arr ty sz es))):cJ blk (.one (.hsl id g z o l))=[id]:=(gR h:c9 blk 6 (.hsl id g z o l)=[id])
theorem S1:(S.sites 83).contains 83=true:=by kernel_rfl
theorem SZ:(S.sites 83).contains 103=true:=by kernel_rfl
theorem SY:(S.sites 83).contains 104=true:=by kernel_rfl
theorem EP{S:List Bool}{n k:Nat}{b:Bool}(hk:k<n)(hn:n<=S.length)(h:S.getD k true=b):(S.take n)[k]?=some b:=by rw[aby,if_pos hk];rw[aaC] at h;obtain⟨c,hc⟩:=ao (show k<S.length by omega);rw[hc] at h ⊢;exact congrArg some h
theorem Um(g:cV F ls):aP S 68 [bj F ls] (.tup [.one (ah A1 5 (Gq (aW F ls))),.one (.p (.int .i64 0))]):=by
 have ok:=g.ok;have hl:=ok.hl;have hF:F<=1000:=by have:=g.fing;omega
 have hal:(ae ls).length<=ls.length:=fC ls ls.length;have hlen:=g.len;have hnd:nD ls<=4000000:=by unfold nD;omega
 have h2n:2*ls.length<=nD ls:=by unfold nD;omega
 have pr:=Dp F ls hl;rw[lO g.chk,if_neg g.ne,ab1] at pr;have pb:=UP ok;have hm:=maps ok;have m2:=eV (a:=ls.length) (by omega);have aa8:2*ls.length<=140737488355328:=by omega
 have abs:List.replicate (2*ls.length) [PV.bool false]=bP ((aL (cq ls) (nD ls) 0).2.take (2*ls.length)):=by show _=bP ((List.replicate (nD ls) false).take (2*ls.length));rw[List.take_replicate,acu h2n];simp
 have hLB:∀blk:aw,land blk [] 4352384064 ((RV.one (.own 4 1 (bP (En ls)))).bn (S.lone 4352384064))=some (.one (.hsl 4352384064 ((blk 4352384064).1+1) 1 0 ls.length),[(4352384064,((blk 4352384064).1+1,some (.arr 4 1 (bP (En ls)))))]):=by intro blk;rw[show S.lone 4352384064=false by kernel_rfl];show some (V.one (.hsl 4352384064 ((blk 4352384064).1+1) 1 0 (bP (En ls)).length),_)=_;rw[show(bP (En ls)).length=ls.length by simp[tD]];rfl
 have hsh:S.shared 83=true:=by kernel_rfl
 refine aJ c68 ?_;simp only[go_sem,i68,s20,aq pr aN,s82,aq pb (hLB _),m2,aa8,abs];refine aV (fun k env blk=>env 4=.one (.p (xu F ls))/\env 7=.one (.hsl 4352320448 1 1 0 (2*ls.length))/\env 8=.one (.hsl 4352384064 1 1 0 ls.length)/\env 29=vi ((2*ls.length:Nat):Int)/\env 30=vi k/\
   blk 4352320448=(1,some (.arr 4 1 (bP ((aL (cq ls) (nD ls) k).2.take (2*ls.length)))))/\blk 4352384064=(1,some (.arr 4 1 (bP (En ls))))/\
   ∃vo,env 6=.one vo/\grown 4352704448 A1 5 (Gq ((aL (cq ls) (nD ls) k).1.map (gI F ls))) (.one vo) blk) 0 (2*ls.length) (aan _) ?_ ?_
 .simp only[go_sem];first|exact⟨rfl,rfl,rfl,_,rfl,.inl ⟨rfl,rfl⟩⟩|exact⟨rfl,rfl,_,rfl,.inl ⟨rfl,rfl⟩⟩|exact⟨rfl,_,rfl,.inl ⟨rfl,rfl⟩⟩|exact⟨rfl,rfl,rfl,rfl,_,rfl,.inl ⟨rfl,rfl⟩⟩
 rintro k env blk hk ⟨h4,h7,h8,h29,h30,bS,bB,vo,h6,go⟩
 by_cases hlt:k<2*ls.length
 .have aak:((k:Int)<((2*ls.length:Nat):Int)):=by omega
  have w1:=ak (n:=k) (by omega);obtain⟨hcl,_⟩:=jK hm k (by omega);have agR:=jw (cq ls) (nD ls) k;have aeb:=ql (cq ls) (nD ls) k;have hst:=eh (cq ls) (nD ls) k;generalize hw:aL (cq ls) (nD ls) k=st at*;obtain⟨o,sn'⟩:=st;simp only at hcl agR aeb bS go;unfold fP at hst;cases hs:sn'.getD k true with
  |true=>simp only[hs,if_true] at hst;have hb:=l5 (EP hlt (by omega) hs);simp only[go_sem,i68_l1,h4,h6,h7,h8,h29,h30,bS,bB,hlt,aak,hb,w1,hst];exact⟨vo,rfl,go⟩
  |false=>
   simp only[hs,aaE,if_false,agR] at hst;have hb:=l5 (EP hlt (by omega) hs);obtain⟨t,ht⟩:=xI (cq ls) (k:=nD ls) hs;have hfw:((cS (cq ls) (nD ls+1) k sn').1).foldl (Fc.add F ls) (Fc.new ls k)=gI F ls (cS (cq ls) (nD ls+1) k sn').1:=by unfold gI;rw[ht];rfl
   have hdn:=Gs (F:=F) (t:=t) hlt;rw[<- ht] at hdn;simp only[go_sem,i68_l1,h4,h6,h7,h8,h29,h30,bS,bB,hlt,aak,hb,hsh];have am3:cJ blk (.one (.hsl 4352320448 1 1 0 (2*ls.length)))=[4352320448]:=vd bS;have agE:cJ blk (.one (.hsl 4352384064 1 1 0 ls.length))=[4352384064]:=vd bB;refine gb (P:=QC F ls 4352320448 1 k sn' blk) fy (Xs ok hF (fun id h=>ff (by rw[h];exact S1)) (dA ?_) (dA ?_) (by decide) (by decide) (by decide) ?_ ?_ hlt agR hcl hs bS bB) ?_
   .simp only[aaK,abt,am3,agE];simp
   .simp only[aaK,abt,am3,agE];simp
   .exact SZ
   .exact SY
   rintro v aao ⟨f,cd,cp,cf,hf,rfl,bS1,gd,gp,gf,hkp⟩
   rw[hfw] at hf;rw[<- hf] at hdn;have bB1:=(hkp 4352384064 (by decide)).trans bB;have go1:=go.of_eq (hkp 4352704448 (by decide));have abc:Gq (o.map (gI F ls))++[f.ps]=Gq ((aL (cq ls) (nD ls) (k+1)).1.map (gI F ls)):=by rw[hst,hf];simp
   have hS2:(aL (cq ls) (nD ls) (k+1)).2=(cS (cq ls) (nD ls+1) k sn').2:=by rw[hst]
   have aqy:(Gq (o.map (gI F ls))).length<=k:=by simpa using aeb
   generalize Gq (o.map (gI F ls))=outs at go1 abc aqy;have gd0:=gd;rcases gd with ⟨e,_⟩|⟨_,gg,e,hbd⟩
   .simp at e;exact absurd e hdn
   cases e;simp only[go_sem];rw[aau] at gd0;obtain⟨fr,hx,hfa,hfi⟩:=IV (blk:=fY aao 4352704384 ((aao 4352704384).1+1,some (.aaJ A1 5 [[.p (.bool f.aaw),.hsl 5312512256 gg 1 0 f.aap.length,cp,cf,.p (.bool f.outer)]]))) (s:=4352704384) jy (gd0.of_eq (af (by decide))) (gp.of_eq (af (by decide))) (gf.of_eq (af (by decide)));have nf:∀i,i≠5312512256->i≠5312896192->i≠5312896448->i∉fr:=fun i a b c h=>by
    rcases hfi i h with h|h|h
    .exact a h
    .exact b h
    exact c h
   refine Uj (site:=4352704448) (id:=4352704448) (bytes:=88) (go1.of_eq (af (by decide))) hx hfa (nf _ (by decide) (by decide) (by decide)) (nf _ (by decide) (by decide) (by decide)) (.inl rfl) (by simp only[aaz,aaL];omega) fun c aal hc hb2=>?_;have BS':=(hb2 4352320448 (by decide) (by decide) (nf _ (by decide) (by decide) (by decide))).trans ((af (by decide)).trans bS1);have BB':=(hb2 4352384064 (by decide) (by decide) (nf _ (by decide) (by decide) (by decide))).trans ((af (by decide)).trans bB1);simp only[go_sem,h4,h6,h7,h8,h29,h30,BS',BB',w1,hlt,hS2];refine⟨c,rfl,?_⟩;rw[<- abc];exact hc
 have:k=2*ls.length:=by omega
 subst this;simp only[go_sem,i68_l1,i68_r2,h6,h29,h30,aS];have:=sX hm (nD ls) h2n (aaj _);unfold aW cP;rw[this];exact eF go
structure Pc where
 l:Let
 d:Bool
def Pc.ps(p:Pc):List PV:=[.int .i64 p.l.kind,.int .i64 p.l.gate,.int .i64 p.l.aag,.int .i64 p.l.id,.int .i64 p.l.sign,.bool p.l.over,.bool p.d]
abbrev hJ(o:List Pc):List (List PV):=o.map Pc.ps
abbrev kA:Nat:=132
def fm:Let:=⟨0,0,0,0,0,false⟩
def pieces(ls:List Let):List Pc:=(List.range ls.length).map fun i=>⟨ls.getD i fm,r8 ls i⟩
theorem aB(ls:List Let):(pieces ls).length=ls.length:=by simp[pieces]
theorem cZ{i:Nat}{l:Let}(h:ls[i]?=some l):(pieces ls)[i]?=some ⟨l,r8 ls i⟩:=by have:=(aai.1 h).1;simp only[pieces,aa0,abT this,abx,aaC,h,abv]
theorem dd{o:List Pc}{k:Nat}{p:Pc}(h:o[k]?=some p):(hJ o)[k]?=some p.ps:=by simp[h]
def eO(L:List Nat)(ds:List Nat)(v:Nat):List Nat:=ds.foldl (fun L d=>L.set d v) L
def iS:List Fc->Nat->List Nat->List Nat
 |[],_,L=>L
 |f::r,j,L=>iS r (j+1) (eO L f.aap j)
def gG(F:Nat)(ls:List Let):List Nat:=iS (aW F ls) 0 (List.replicate (2*ls.length) 0)
theorem lN(L ds:List Nat)(v:Nat):(eO L ds v).length=L.length:=by
 induction ds generalizing L with
 |nil=>rfl
 |cons d ds ih=>show(eO (L.set d v) ds v).length=_;rw[ih];simp
theorem HM(L a b:List Nat)(v:Nat):eO L (a++b) v=eO (eO L a v) b v:=by simp[eO]
theorem rR(fs:List Fc):∀(j:Nat) (L:List Nat),(iS fs j L).length=L.length:=by
 induction fs with
 |nil=>intro j L;rfl
 |cons f r ih=>intro j L;show(iS r (j+1) _).length=_;rw[ih,lN]
theorem Mz(a:List Fc)(f:Fc):∀(j:Nat) (L:List Nat),iS (a++[f]) j L=eO (iS a j L) f.aap (j+a.length):=by
 induction a with
 |nil=>intro j L;rfl
 |cons g r ih=>intro j L;show iS (r++[f]) (j+1) _=_;rw[ih];simp[iS];congr 1;omega
theorem Ez(F:Nat)(ls:List Let):∀(w:List Nat) (f:Fc),(w.foldl (Fc.add F ls) f).aap=f.aap++w.filter (fun x=>decide (x<2*ls.length)):=by
 intro w
 induction w with
 |nil=>intro f;simp
 |cons x w ih=>
  intro f;rw[acT,ih];unfold Fc.add;by_cases h:x<2*ls.length
  .rw[if_pos h,List.filter_cons_of_pos (by simpa using h)];simp
  rw[if_neg h,List.filter_cons_of_neg (by simpa using h)]
theorem nG(F:Nat)(ls:List Let)(w:List Nat):(gI F ls w).aap=w.filter (fun x=>decide (x<2*ls.length)):=by unfold gI;rw[Ez];rfl
theorem oY{f:Fc}(h:f∈aW F ls):∀d∈f.aap,d<2*ls.length:=by
 obtain⟨w,_,rfl⟩:=aaF.1 h;intro d hd;rw[nG] at hd
 simpa using (ab4.1 hd).2
theorem qR(ok:dS F ls){f:Fc}(h:f∈aW F ls):f.aap.length<=nD ls:=by obtain⟨w,hw,rfl⟩:=aaF.1 h;rw[nG];exact abm (List.length_filter_le _ _) (jd ok w hw).2.1
theorem zx(F:Nat)(ls:List Let):(aW F ls).length=dU ls:=by simp[aW,dU]
theorem IQ{o:List Fc}{k:Nat}{p:Fc}(h:o[k]?=some p):(Gq o)[k]?=some p.ps:=by simp[h]
abbrev dE(F:Nat)(ls:List Let):PV:=.box [.int .i64 F,.sl (hJ (pieces ls)),.sl (Gq (aW F ls)),.sl (nP (gG F ls)),.int .i64 (aA Let.aH ls:Nat),.int .i64 ((aA Let.aD ls/2:Nat):Int),.sl (nP (counts ls F))]
abbrev Re(F:Nat)(ls:List Let)(pc cf:C):List C:=[.p (.int .i64 F),pc,cf,.hsl 3520256448 1 1 0 (2*ls.length),.p (.int .i64 (aA Let.aH ls:Nat)),.p (.int .i64 ((aA Let.aD ls/2:Nat):Int)),.hsl 3520256960 1 1 0 (F+1)]
theorem YC{F:Nat}{ls:List Let}(g:cV F ls){pc cf:C}{env:Env}{blk:aw}{Q:cU}(h4:env 4=.one cf)(h6:env 6=.one (.aam 3520257088 1 0))
  (bB:blk 3520257088=(1,some (.var (Re F ls pc cf)))) (bL:blk 3520256448=(1,some (.arr 3 1 (nP (List.replicate (2*ls.length) 0))))) (bC:blk 3520256960=(1,some (.arr 3 1 (nP (counts ls F))))) (gp:grown 3520896448 kA 7 (hJ (pieces ls)) (.one pc) blk) (gf:grown 3520064064 A1 5 (Gq (aW F ls)) (.one cf) blk)
  (hq:∀aah aaf,aah 6=env 6->aaf 3520257088=(1,some (.var (Re F ls pc cf)))->aaf 3520256448=(1,some (.arr 3 1 (nP (gG F ls))))->aaf 3520256960=(1,some (.arr 3 1 (nP (counts ls F))))->grown 3520896448 kA 7 (hJ (pieces ls)) (.one pc) aaf->grown 3520064064 A1 5 (Gq (aW F ls)) (.one cf) aaf->W S .all i55_r5 Q aah aaf):
  W S .all i55_r6 Q env blk:=by
 have ok:=g.ok;have hl:=ok.hl;have hlen:=g.len;have hal:(ae ls).length<=ls.length:=fC ls ls.length;have hnd:nD ls<=4000000:=by unfold nD;omega
 have hfl:(aW F ls).length<=nD ls:=by rw[aW,aau];exact ql (cq ls) (nD ls) _
 obtain⟨g0,ak7⟩:∃gg,cf=.hsl 3520064064 gg 5 0 (aW F ls).length:=by
  rcases gf with ⟨e,_⟩|⟨_,gg,e,hb⟩
  .have h1:(aW F ls).length=0:=by simpa using congrArg List.length e
   rw[zx,g.nw] at h1;omega
  cases e;exact⟨gg,by rw[aau]⟩
 have h4':=h4;rw[ak7] at h4';simp only[go_sem,i55_r6,h4'];refine aV (fun k aah aaf=>aah 6=env 6/\aah 78=.one cf/\aah 79=vi (aW F ls).length/\aah 80=vi k/\aaf 3520257088=(1,some (.var (Re F ls pc cf)))/\aaf 3520256448=(1,some (.arr 3 1 (nP (iS ((aW F ls).take k) 0 (List.replicate (2*ls.length) 0)))))/\aaf 3520256960=(1,some (.arr 3 1 (nP (counts ls F))))/\
   grown 3520896448 kA 7 (hJ (pieces ls)) (.one pc) aaf/\grown 3520064064 A1 5 (Gq (aW F ls)) (.one cf) aaf) 0 (aW F ls).length (aan _) ?_ ?_
 .simp only[go_sem,bB,bL,bC,iS,ak7];exact⟨rfl,gp,by first|exact gf|(rw[<- ak7];exact gf)⟩
 rintro k aah aaf hk ⟨q6,h78,h79,h80,bB,bL,bC,gp,gf⟩
 rw[h6] at q6;by_cases hlt:k<(aW F ls).length
 .have aak:((k:Int)<((aW F ls).length:Int)):=by omega
  obtain⟨f,hf⟩:=ao hlt;have hfp:=IQ hf;have abj:=aae hf;have hdl:=qR ok abj;have hdd:=oY abj;have w1:=ak (n:=k) (by omega);have htk:iS ((aW F ls).take (k+1)) 0 (List.replicate (2*ls.length) 0)=eO (iS ((aW F ls).take k) 0 (List.replicate (2*ls.length) 0)) f.aap k:=by rw[abM,hf];show iS (_++[f]) 0 _=_;rw[Mz,aa2,acu (by omega),abd]
  have hLl:(iS ((aW F ls).take k) 0 (List.replicate (2*ls.length) 0)).length=2*ls.length:=by rw[rR,List.length_replicate]
  generalize iS ((aW F ls).take k) 0 (List.replicate (2*ls.length) 0)=L at bL htk hLl;obtain⟨gg,hcf,bf⟩:∃gg,cf=.hsl 3520064064 gg 5 0 (Gq (aW F ls)).length/\aaf 3520064064=(gg,some (.arr A1 5 (Gq (aW F ls)))):=by
   rcases gf with ⟨e,_⟩|⟨_,gg,e,hb⟩
   .have:(aW F ls).length=0:=by simpa using congrArg List.length e
    omega
   cases e;exact⟨gg,rfl,hb⟩
  rw[aau] at hcf;have ald:=h78;rw[hcf] at ald;simp only[go_sem,i55_l4,ald,h79,h80,bf,hfp,Fc.ps,hlt,aak];refine aV (fun j aar aal=>aar 6=.one (.aam 3520257088 1 0)/\aar 11=vi k/\aar 78=.one cf/\aar 79=vi (aW F ls).length/\aar 80=vi k/\aar 86=.one (.p (.sl (nP f.aap)))/\aar 87=vi f.aap.length/\aar 88=vi j/\
   aal 3520257088=(1,some (.var (Re F ls pc cf)))/\aal 3520256448=(1,some (.arr 3 1 (nP (eO L (f.aap.take j) k))))/\aal 3520256960=(1,some (.arr 3 1 (nP (counts ls F))))/\grown 3520896448 kA 7 (hJ (pieces ls)) (.one pc) aal/\grown 3520064064 A1 5 (Gq (aW F ls)) (.one cf) aal) 0 f.aap.length (aan _) ?_ ?_
  .simp only[go_sem,q6,hcf,ald,h79,h80,bB,bL,bC,eO,List.foldl_nil];refine⟨rfl,gp.of_eq (af (by decide)),?_⟩;first|exact gf.of_eq (af (by decide))|(rw[<- hcf];exact gf.of_eq (af (by decide)))
  rintro j aar aal hj ⟨p6,p11,p78,p79,p80,p86,p87,p88,cB,cL,cC,cp,cg⟩
  by_cases hlj:j<f.aap.length
  .have aeJ:((j:Int)<(f.aap.length:Int)):=by omega
   obtain⟨d,hd⟩:=ao hlj;have hdp:=eZ hd;have hdb:=hdd d (aae hd);have w2:=ak (n:=j) (by omega);have aaH:(eO L (f.aap.take j) k).set d k=eO L (f.aap.take (j+1)) k:=by rw[abM,hd,HM];rfl
   have hs2:=vj (eO L (f.aap.take j) k) d k;rw[aaH] at hs2;obtain⟨v0,hv0⟩:=ao (ls:=eO L (f.aap.take j) k) (k:=d) (by rw[lN,hLl];exact hdb);have hv:=eZ hv0;simp only[go_sem,i55_l2,p6,p11,p78,p79,p80,p86,p87,p88,cB,cL,cC,hlj,aeJ,hdp,hdb,hv,hs2,w2];exact⟨cp.of_eq (af (by decide)),cg.of_eq (af (by decide))⟩
  have:j=f.aap.length:=by omega
  subst this;rw[abw,<- htk] at cL;simp only[go_sem,i55_l2,i55_r3,p6,p78,p79,p80,p87,p88,cB,cL,cC,aS,w1,hlt,h6];exact⟨cp,cg⟩
 have:k=(aW F ls).length:=by omega
 subst this;rw[abw] at bL;simp only[go_sem,i55_l4,h79,h80,aS];exact hq _ _ (by simp only[go_sem,q6,h6]) bB bL bC gp gf
theorem Pb(g:cV F ls):aP S 55 [bj F ls] (tS (dE F ls) (.int .i64 0)):=by
 have ok:=g.ok;have hl:=ok.hl;have hlen:=g.len;have acq:=g.fing;have pf:=Um g;have pps:=yA F ls hl;have pcs:=wH F ls hl;have lo:S.lone 3520064064=false:=by kernel_rfl
 have m2:=eV (a:=ls.length) (by omega);have wF:=ak (n:=F) (by omega);have r1:2*ls.length*8<=140737488355328:=by omega
 have r2:(F+1)*8<=140737488355328:=by omega
 have e1:List.replicate (2*ls.length) [PV.int .i64 0]=nP (List.replicate (2*ls.length) 0):=by simp
 have e2:List.replicate (F+1) [PV.int .i64 0]=nP (eK ls F 0):=by rw[pz];simp
 refine aJ c55 ?_;simp only[go_sem,i55,s68];refine Qw pf lo fun cf abf hcf hb0=>?_;have b00:=hb0 3520000000 (by decide);simp only[go_sem] at b00;simp only[go_sem,b00,m2,wF,r1,r2,s66,s69,gh pps,gh pcs,e1,e2];refine⟨aK,?_⟩;have hz:∀j,j≠3520064064->j≠3520000000->abf j=(0,none):=fun j a b=>(hb0 j a).trans (af b);have z1:=hz 3520256448 (by decide) (by decide);have z2:=hz 3520256960 (by decide) (by decide);have z3:=hz 3520257088 (by decide) (by decide);refine aV (fun k env blk=>env 4=.one cf/\env 6=.one (.aam 3520257088 1 0)/\env 7=vb (dn ls k)/\env 42=.one (.p (eB ls))/\env 43=vi ls.length/\env 44=vi k/\
   blk 3520256448=(1,some (.arr 3 1 (nP (List.replicate (2*ls.length) 0))))/\blk 3520256960=(1,some (.arr 3 1 (nP (eK ls F k))))/\
   ∃pc,blk 3520257088=(1,some (.var (Re F ls pc cf)))/\grown 3520896448 kA 7 (hJ ((pieces ls).take k)) (.one pc) blk/\grown 3520064064 A1 5 (Gq (aW F ls)) (.one cf) blk) 0 ls.length (aan _) ?_ ?_
 .simp only[go_sem,z1,z2,z3];refine⟨rfl,rfl,.p .nils,rfl,.inl ⟨rfl,rfl⟩,hcf.of_eq ?_⟩;simp only[go_sem]
 rintro k env blk hk ⟨h4,h6,h7,h42,h43,h44,bL,bC,pc,bB,gp,gf⟩
 by_cases hlt:k<ls.length
 .obtain⟨l,hk1⟩:=ao hlt;have hi:=fQ hk1;have aak:((k:Int)<(ls.length:Int)):=by omega
  have w1:=ak (n:=k) (by omega);have hpa:=cZ hk1;cases hp:(l.kind==1) with
  |false=>
   have hp':l.aH=false:=hp;have hdp:r8 ls k=false:=by simp[r8,hk1,hp']
   rw[hdp] at hpa;have hd:=uD hk1 hp';have hcm:=uF (F:=F) hk1 hp';have htk:hJ ((pieces ls).take (k+1))=hJ ((pieces ls).take k)++[(Pc.mk l false).ps]:=by rw[abM,hpa];simp
   simp only[go_sem,i55_l1,h6,h42,h43,h44,hi,Let.ps,aak,hp,bB];refine mX (site:=3520896448) (id:=3520896448) (bytes:=56) (xs:=[(Pc.mk l false).ps]) (rd:=[3520896384]) (gp.of_eq (by simp only[aa,Nat.reduceEqDiff,if_false])) (by simp[aO,aa,Pc.ps]) (.inl rfl) (by simp only[aau,aaz,aaL,aa2,aB];omega) fun c aao r u hc hb hr=>?_;have hfr:∀i,i≠3520896448->i≠3520896384->i≠3520576128->i≠3520512128->i≠3520256960->aao i=blk i:=fun i a b c d e=>(hb i a a).trans (by simp only[aa,if_neg b,if_neg c,if_neg d])
   have hcn:=(hb 3520256960 (by decide) (by decide));simp only[aa,Nat.reduceEqDiff,if_false,bC] at hcn;have bB1:=(hfr 3520257088 (by decide) (by decide) (by decide) (by decide) (by decide)).trans bB;have bL1:=(hfr 3520256448 (by decide) (by decide) (by decide) (by decide) (by decide)).trans bL;simp only[go_sem,h4,h6,h7,h42,h43,h44,bB1,bL1,hcn,w1,hd,hcm,hlt];refine⟨?_,?_⟩
   .rcases hr with ⟨rfl,rfl⟩|⟨rfl,rfl⟩|⟨rfl,rfl⟩<;>kernel_rfl
   refine⟨c,rfl,?_,?_⟩
   .rw[htk];exact hc.of_eq (af (by decide))
   exact gf.of_eq ((af (by decide)).trans (hfr _ (by decide) (by decide) (by decide) (by decide) (by decide)))
  |true=>
   have hp':l.aH=true:=hp;have hdp:r8 ls k=dn ls k:=by simp[r8,hk1,hp']
   rw[hdp] at hpa;have hd:=zH hk1 hp';have htk:hJ ((pieces ls).take (k+1))=hJ ((pieces ls).take k)++[(Pc.mk l (dn ls k)).ps]:=by rw[abM,hpa];simp
   have hgd:=ok.ax.dX l (aae hk1) hp';obtain⟨G,hG⟩:=abX hgd.g0;have hGF:G<=F:=by have:=hgd.g1;omega
   have aeR:G<F+1:=by omega
   have hca:=eZ (zR (ls:=ls) (k:=k) hGF);have hcl:cg (ls.take k) G<=k:=mE _ _ _;have w2:=ak (n:=cg (ls.take k) G) (by omega);have s1:=vj (eK ls F k) G (cg (ls.take k) G+1);rw[<- wJ hk1 hp' hG] at s1;simp only[go_sem,i55_l1,h6,h7,h42,h43,h44,hi,Let.ps,aak,hp,hG,bB,bC,hca,aeR,w2,s1];refine⟨aK,?_⟩;refine mX (site:=3520896448) (id:=3520896448) (bytes:=56) (xs:=[(Pc.mk l (dn ls k)).ps]) (rd:=[3520896384]) (gp.of_eq (by simp only[aa,Nat.reduceEqDiff,if_false])) (by simp[aO,aa,Pc.ps,hG]) (.inl rfl) (by simp only[aau,aaz,aaL,aa2,aB];omega) fun c aao r u hc hb hr=>?_
   have hfr:∀i,i≠3520896448->i≠3520896384->i≠3520576128->i≠3520512128->i≠3520256960->aao i=blk i:=fun i a b c d e=>(hb i a a).trans (by simp only[aa,if_neg b,if_neg c,if_neg d,if_neg e]);have hcn:=(hb 3520256960 (by decide) (by decide));simp only[aa,Nat.reduceEqDiff,if_false,if_true,bC] at hcn;have bB1:=(hfr 3520257088 (by decide) (by decide) (by decide) (by decide) (by decide)).trans bB;have bL1:=(hfr 3520256448 (by decide) (by decide) (by decide) (by decide) (by decide)).trans bL;simp only[go_sem,h4,h6,h7,h42,h43,h44,bB1,bL1,hcn,w1,hd,hlt];refine⟨?_,?_⟩
   .rcases hr with ⟨rfl,rfl⟩|⟨rfl,rfl⟩|⟨rfl,rfl⟩<;>kernel_rfl
   refine⟨c,rfl,?_,?_⟩
   .rw[htk];exact hc.of_eq (af (by decide))
   exact gf.of_eq ((af (by decide)).trans (hfr _ (by decide) (by decide) (by decide) (by decide) (by decide)))
 have:k=ls.length:=by omega
 subst this;rw[aa4 (by rw[aB];exact aaj _)] at gp;rw[qV] at bC;simp only[go_sem,i55_l1,h43,h44,aS];refine YC g (pc:=pc) (cf:=cf) ?_ ?_ bB bL bC gp gf ?_
 .simp only[go_sem,h4]
 .simp only[go_sem,h6]
 intro aah aaf q6 cB cL cC gp' gf';simp only[go_sem,h6] at q6;obtain⟨rp,np,_⟩:=gp'.Of (n:=4);obtain⟨rf,nf,_⟩:=gf'.Of (n:=4);have t1:List.take (2*ls.length) (nP (gG F ls))=nP (gG F ls):=aa4 (by simp[gG,rR]);have t2:List.take (F+1) (nP (counts ls F))=nP (counts ls F):=aa4 (by simp[counts]);have n1:2*ls.length<=(gG F ls).length:=by simp[gG,rR]
 have n2:F+1<=(counts ls F).length:=by simp[counts]
 simp only[go_sem,i55_r5,q6];simp only[go_sem,fH,jv,ii,ef,fJ,fR,cB,cL,cC,np,nf,t1,t2,n1,n2];rfl
theorem jT{x:Int}(h1: -9223372036854775808<=x)(h2:x<=9223372036854775807):IntKind.i64.wrap x=x:=by
 have e:(2 ^ IntKind.i64.bits:Int)=18446744073709551616:=by decide
 have e2:(2 ^ (IntKind.i64.bits-1):Int)=9223372036854775808:=by decide
 unfold IntKind.wrap;simp only[e,e2];by_cases h:0<=x
 .have h3:x%18446744073709551616=x:=by omega
  rw[h3];have h4:¬x≥9223372036854775808:=by omega
  simp[h4]
 have h3:x%18446744073709551616=x+18446744073709551616:=by omega
 rw[h3];have h4:x+18446744073709551616≥9223372036854775808:=by omega
 have h5:IntKind.i64.signed=true:=rfl;simp[h4,h5]
theorem SM(l:List Pc):gQ 7 (hJ l)=true:=by simp[gQ,Pc.ps]
theorem tQ(l:List Pc):((hJ l).all fun e=>e.all PV.scalar)=true:=by simp[Pc.ps,PV.scalar]
abbrev wA(l x:List Pc)(k:Nat):List Pc:=l.take (k+1)++x++l.drop (k+1)
theorem JT(a b:List Pc):hJ (a++b)=hJ a++hJ b:=by simp
theorem UH(p:Pc)(t:List Pc)(hl:(p::t).length<=1000000):aP S 110 [.one (.p (.sl (hJ (p::t))))] (.one (ah kA 7 (hJ (p::t)))):=by
 have hs:=SM (p::t);have hr:(0+(hJ (p::t)).length)*56<=room:=by unfold room;rw[aau];omega
 refine aJ c110 ?_;obtain⟨e0,es,hq⟩:∃e0 es,hJ (p::t)=e0::es:=⟨_,_,rfl⟩;rw[hq] at hs hr ⊢;have hne:e0::es≠[]:=by simp
 have hgr:ah kA 7 (e0::es)=.own kA 7 (e0::es):=if_neg hne;rw[hgr];unfold room at hr;simp only[abd,aaz] at hr;simp only[gQ,abu] at hs;simp only[go_sem,i110,aF,gQ];simp only[hs,hr,not_true_eq_false,if_true,if_false];simp only[go_sem];exact t8 jy rfl
def ED(g ab b:Int)(p:Pc):Pc:=if (p.l.kind==1)&&((p.l.gate==g)&&decide (ab<p.l.aag)) then {p with l:={p.l with aag:=p.l.aag+b}} else p
abbrev dr(l:List Pc)(g ab b:Int):List Pc:=l.map (ED g ab b)
def Ox(id:Nat)(es:List (List PV))(c:C)(blk:aw)(v:V)(aaf:aw):Prop:=v=.tup []/\grown id kA 7 es (.one c) aaf/\Kept (· =id) blk aaf
theorem S9{al:Al}{blk:aw}{id:Nat}{l:List Pc}{c:C}{g ab b:Int}(o:l=[]\/al.ok id=true)(hl:l.length<=1000000)(hb: -100<=b/\b<=100)(hr:∀p∈l,-1000000<=p.l.aag/\p.l.aag<=1000000)(h:grown id kA 7 (hJ l) (.one c) blk):
  ∃v aaf,nQ S 108 [.one c,vi g,vi ab,vi b] al blk v aaf/\Ox id (hJ (dr l g ab b)) c blk v aaf:=by
 refine dO c108 (aaW rfl) ?_;rcases h with ⟨h1,h2⟩|⟨hne,gg,h2,hC⟩
 .cases h2;have hln:l=[]:=by simpa using h1
  subst hln;have hz:¬(((0:Nat):Int)<((0:Nat):Int)):=by omega
  simp only[go_sem,i108];refine aV (fun k env aaf=>k=0/\env 10=vi ((0:Nat):Int)/\env 11=vi ((0:Nat):Int)/\aaf=blk) 0 0 (aaj _) ?_ ?_
  .simp only[go_sem];exact rfl
  rintro k env aaf _ ⟨rfl,h10,h11,rfl⟩
  simp only[go_sem,i108_l1,h10,h11,hz];exact⟨rfl,.inl ⟨rfl,rfl⟩,fun _ _=>rfl⟩
 cases h2;have o:=o.resolve_left (by simpa using hne);simp only[go_sem,i108];refine aV (fun k env aaf=>env 0=.one (.hsl id gg 7 0 l.length)/\env 1=vi g/\env 2=vi ab/\env 3=vi b/\env 10=vi l.length/\env 11=vi k/\aaf id=(gg,some (.arr kA 7 (hJ ((dr (l.take k) g ab b)++l.drop k))))/\Kept (· =id) blk aaf) 0 l.length (aan _) ?_ ?_
 .simp only[go_sem,hC];refine⟨?_,?_⟩
  .simp[]
  exact Kept.refl _ _
 rintro k env aaf hk ⟨h0,h1,h2,h3,h10,h11,hF,hkp⟩
 by_cases hlt:k<l.length
 .have aak:((k:Int)<(l.length:Int)):=by omega
  obtain⟨p,hp⟩:=ao hlt;have w1:=ak (n:=k) (by omega);obtain⟨r1,r2⟩:=hr p (aae hp);have wr:=jT (x:=p.l.aag+b) (by omega) (by omega);have hdr:l.drop k=p::l.drop (k+1):=by obtain⟨hh,rfl⟩:=aai.1 hp;exact List.drop_eq_getElem_cons hh
  have hlen:((dr (l.take k) g ab b)++l.drop k).length=l.length:=by simp[dr];omega
  have hat:((dr (l.take k) g ab b)++l.drop k)[k]?=some p:=by
   rw[acA (by simp[dr];omega)];have:k-(dr (l.take k) g ab b).length=0:=by simp[dr];omega
   rw[this,hdr];rfl
  have aaH:((dr (l.take k) g ab b)++l.drop k).set k (ED g ab b p)=(dr (l.take (k+1)) g ab b)++l.drop (k+1):=by
   have e1:(dr (l.take k) g ab b).length=k:=by simp[dr];omega
   rw[List.set_append_right _ _ (by omega),e1,Nat.sub_self,hdr,List.set_cons_zero,abM,hp];simp[dr]
  have hpp:=dd hat;have acx:hJ (((dr (l.take k) g ab b)++l.drop k).set k (ED g ab b p))=(hJ ((dr (l.take k) g ab b)++l.drop k)).set k (ED g ab b p).ps:=by simp[hJ,List.map_set]
  rw[aaH] at acx;have abU:ED g ab b p=p->hJ ((dr (l.take k) g ab b)++l.drop k)=hJ ((dr (l.take (k+1)) g ab b)++l.drop (k+1)):=fun e=>by rw[acx,e];obtain⟨hh,he⟩:=aai.1 hpp;rw[<- he,List.set_getElem_self]
  generalize (dr (l.take k) g ab b)++l.drop k=m at hF hat hpp acx abU hlen;have hml:k<(hJ m).length:=by rw[aau];omega
  cases c1:(p.l.kind==1) with
  |false=>have e:=abU (by unfold ED;rw[c1];rfl);simp only[go_sem,i108_l1,h0,h1,h2,h3,h10,h11,hF,hpp,Pc.ps,hlt,aak,c1,w1,o];exact⟨by rw[e],hkp⟩
  |true=>
   cases c2:(p.l.gate==g) with
   |false=>have e:=abU (by unfold ED;rw[c1,c2];rfl);simp only[go_sem,i108_l1,h0,h1,h2,h3,h10,h11,hF,hpp,Pc.ps,hlt,aak,c1,c2,w1,o];exact⟨by rw[e],hkp⟩
   |true=>
    by_cases c3:ab<p.l.aag
    .have e:(ED g ab b p).ps=[.int .i64 p.l.kind,.int .i64 p.l.gate,.int .i64 (p.l.aag+b),.int .i64 p.l.id,.int .i64 p.l.sign,.bool p.l.over,.bool p.d]:=by unfold ED;rw[c1,c2,decide_eq_true c3];rfl
     rw[e] at acx;simp only[go_sem,i108_l1,h0,h1,h2,h3,h10,h11,hF,hpp,Pc.ps,hlt,aak,c1,c2,c3,w1,wr,o];refine⟨?_,?_⟩
     .first|rw[acx]|(rw[acx];rfl)
     exact hkp.fY rfl _
    have e:=abU (by unfold ED;rw[c1,c2,decide_eq_false c3];rfl);simp only[go_sem,i108_l1,h0,h1,h2,h3,h10,h11,hF,hpp,Pc.ps,hlt,aak,c1,c2,c3,w1,o];exact⟨by rw[e],hkp⟩
 have:k=l.length:=by omega
 subst this;simp only[go_sem,i108_l1,h10,h11,aS];refine⟨rfl,?_,hkp⟩;rw[abw,adw,abo] at hF;exact .inr ⟨by simpa using hne,gg,by simp[dr],hF⟩
def WV(p:Pc):Bool:=(p.l.kind==1)&&p.d
def pdA(l:List Pc)(i:Nat):Bool:=match l[i]? with|some p=>WV p|none=>false
theorem HY{l:List Pc}{i:Nat}{p:Pc}(h:l[i]?=some p):pdA l i=WV p:=by simp[pdA,h]
def ij(l:List Pc):Option Nat:=(List.range l.length).find? (pdA l)
theorem Ux(p:Pc):aP S 95 [.agg (p.ps.map .p)] (rb (WV p)):=by
 refine aJ c95 ?_;unfold WV;cases h:(p.l.kind==1) with
 |true=>simp only[go_sem,i95,Pc.ps,h]
 |false=>simp only[go_sem,i95,Pc.ps,h]
theorem T6(l:List Pc)(hl:l.length<=1000000):aP S 94 [.one (.p (.sl (hJ l))),.one (.p (.fn 95 [] []))] (ri (match ij l with|some k=>(k:Int)|none=> -1)):=by
 refine aJ c94 ?_;simp only[go_sem,i94];refine aV (fun k env blk=>env 0=.one (.p (.sl (hJ l)))/\env 1=.one (.p (.fn 95 [] []))/\env 7=vi l.length/\env 8=vi k/\ ∀j,j<k->pdA l j=false) 0 l.length (aan _) ?_ ?_
 .simp only[go_sem];exact⟨rfl,fun j hj=>absurd hj (abW j)⟩
 rintro k env blk hk ⟨h0,h1,h7,h8,hn⟩
 by_cases hlt:k<l.length
 .have aak:((k:Int)<(l.length:Int)):=by omega
  obtain⟨p,hp⟩:=ao hlt;have hpp:=dd hp;have w1:=ak (n:=k) (by omega);have pd:=Ux p;have hpd:=HY hp;cases hb:WV p with
  |true=>rw[hb] at pd hpd;have hf:ij l=some k:=gH hlt hn hpd;simp only[Pc.ps,aaK,abi] at pd;simp only[go_sem,i94_l1,h0,h1,h7,h8,aak,hpp,Pc.ps,s95,au pd,hf]
  |false=>
   rw[hb] at pd hpd;simp only[Pc.ps,aaK,abi] at pd;simp only[go_sem,i94_l1,h0,h1,h7,h8,hlt,aak,hpp,Pc.ps,s95,au pd,w1];intro j hj;rcases abC.1 hj with h|rfl
   .exact hn j h
   exact hpd
 have:k=l.length:=by omega
 subst this;have hf:ij l=none:=fT hn;simp only[go_sem,i94_l1,i94_r2,h7,h8,aS,hf]
abbrev iM:Nat:=38
def tU(l:List Pc)(aod k:Nat):List Let:=(List.range k).map fun i=>(l.getD ((aod+i)%l.length) ⟨fm,false⟩).l
theorem LV{l:List Pc}{f k:Nat}{p:Pc}(h:l[(f+k)%l.length]?=some p):tU l f (k+1)=tU l f k++[p.l]:=by simp[tU,ack,aaC,h]
def lf(l:List Pc):List Let:=tU l ((ij l).getD 0) l.length
abbrev cA(o:List Let):List (List PV):=o.map Let.ps
theorem IC{s1 t1 z1:Nat}{es:List (List PV)}{c:C}{x:PV}{blk:aw}(h:grown s1 t1 z1 es (.one c) blk):fH blk (.agg [.p x,c])=some (.agg [.p x,ah t1 z1 es]):=by obtain⟨c',o,hc,h2,h3⟩:=h.fR;cases hc;rcases h3 with rfl|rfl<;>simp[fH,jv,ef,fJ,h2,(show Go.Abs.fR blk (.p x)=some (.p x,[],[]) from rfl),apart,kN,fL]
theorem zt(F:Nat)(l:List Pc)(hl:l.length<=1000000)(x1 x2 x3 x4 x5 x6:PV):aP S 73 [.one (.p (.box [.int .i64 F,x1,x2,x3,x4,x5,x6])),.one (.p (.sl (hJ l)))] (.agg [.p (.int .i64 F),ah iM 6 (cA (lf l))]):=by
 have px:=T6 l hl;have hfd:∃f,(ij l).getD 0=f/\(l≠[]->f<l.length):=by
  refine⟨_,rfl,fun hne=>?_⟩;cases h:ij l with
  |none=>exact abh.2 hne
  |some k=>exact aaX.1 (ads h)
 obtain⟨f,hf,hfl⟩:=hfd;have hmx:((ij l=none/\f=0)\/ij l=some f):=by
  cases h:ij l with
  |none=>rw[h] at hf;exact .inl ⟨rfl,hf.symm⟩
  |some k=>rw[h] at hf;exact .inr (congrArg some hf)
 unfold lf;rw[hf];have main:∀(env:Env) (blk:aw),env 1=.one (.p (.sl (hJ l)))->env 4=.one (.aam 4672000000 1 0)->env 5=.one (.aam 4672064320 1 0)->env 6=vi f->env 17=vi l.length->env 18=vi ((0:Nat):Int)->blk 4672000000=(1,some (.var [.p (.int .i64 0),.p .nils]))->blk 4672064320=(1,some (.var [.p (.int .i64 F),.p .nils]))->
   W S .all (.loop i73_l1) (eT 0 (qp S .all i73_r2 (lh .all [(4,some (some 2))] fun v blk=>fH blk v=some (.agg [.p (.int .i64 F),ah iM 6 (cA (tU l f l.length))])))) env blk:=by
  intro env blk e1 e4 e5 e6 e17 e18 b0 bO;refine aV (fun k env blk=>env 1=.one (.p (.sl (hJ l)))/\env 4=.one (.aam 4672000000 1 0)/\env 5=.one (.aam 4672064320 1 0)/\env 6=vi f/\env 17=vi l.length/\env 18=vi k/\blk 4672000000=(1,some (.var [.p (.int .i64 0),.p .nils]))/\ ∃c,blk 4672064320=(1,some (.var [.p (.int .i64 F),c]))/\grown 4672384832 iM 6 (cA (tU l f k)) (.one c) blk) 0 l.length (aan _) ⟨e1,e4,e5,e6,e17,e18,b0,.p .nils,bO,.inl ⟨rfl,rfl⟩⟩ ?_;rintro k env blk hk ⟨h1,h4,h5,h6,h17,h18,b0,c,bO,gc⟩
  by_cases hlt:k<l.length
  .have aak:((k:Int)<(l.length:Int)):=by omega
   have hne:l≠[]:=abh.1 (by omega);have hfl:=hfl hne;have w1:=ak (n:=k) (by omega);have w2:=wrap_add (a:=f) (b:=k) (by omega);have e2:=iv (f+k) l.length;have hm:=aaN (f+k) (show 0<l.length by omega);obtain⟨p,hp⟩:=ao hm;have hpp:=dd hp;have hz:¬((l.length:Int)=0):=by omega
   have hr:=LV hp;have hle:(tU l f k).length=k:=by simp[tU]
   simp only[go_sem,i73_l1,h1,h5,h6,h17,h18,bO,aak,w2,e2,hz,hpp,Pc.ps];refine mX (site:=4672384832) (id:=4672384832) (bytes:=48) (xs:=[p.l.ps]) (rd:=[4672384768]) (gc.of_eq (af (by decide))) (by simp[aO,aa,Let.ps]) (.inl rfl) (by simp only[aau,hle,aaz,aaL];omega) fun c' aao r u hc hb hru=>?_;have bO1:=(hb 4672064320 (by decide) (by decide)).trans ((af (by decide)).trans bO);have b01:=(hb 4672000000 (by decide) (by decide)).trans ((af (by decide)).trans b0);simp only[go_sem,h1,h4,h5,h6,h17,h18,bO1,b01,hlt,w1];refine⟨?_,c',rfl,?_⟩
   .rcases hru with ⟨rfl,rfl⟩|⟨rfl,rfl⟩|⟨rfl,rfl⟩<;>kernel_rfl
   rw[hr,cA,abq];exact hc.of_eq (af (by decide))
  have:k=l.length:=by omega
  subst this;simp only[go_sem,i73_l1,i73_r2,h4,h5,h17,h18,bO,b0,aS];exact IC (gc.of_eq (af (by decide)))
 refine aJ c73 ?_;rcases hmx with ⟨hn,rfl⟩|hs
 .rw[hn] at px;have agO:¬((0:Int)< -1):=by decide
  simp only[go_sem,i73,s94,a7 px];exact main _ _ (by simp only[go_sem]) (by simp only[go_sem]) (by simp only[go_sem]) (by simp only[go_sem];rfl) (by simp only[go_sem]) (by simp only[go_sem];rfl) (by simp only[go_sem]) (by simp only[go_sem])
 rw[hs] at px;simp only[go_sem,i73,s94,a7 px];exact main _ _ (by simp only[go_sem]) (by simp only[go_sem]) (by simp only[go_sem]) (by simp only[go_sem];split<;>(first|rfl|(congr 1;simp;omega))) (by simp only[go_sem]) (by simp only[go_sem];rfl) (by simp only[go_sem]) (by simp only[go_sem])
theorem Kn:aP S 71 [] (.agg [.p .aaI,.p (.fn 85 [] []),.p (.fn 86 [] []),.p (.fn 87 [] []),.p (.fn 88 [] []),.p (.fn 89 [] []),.p (.fn 90 [] []),.p (.fn 91 [] []),.p (.fn 92 [] []),.p (.fn 93 [] []),.p (.fn 93 [] [])]):=by refine aJ c71 ?_;simp only[go_sem,i71];rfl
def bK(k:Int):Int×Int:=if k=2 then (2,0) else if k=5 then (2,1) else if k=7 then (4,2) else (0,0)
theorem Kt(k:Int):aP S 72 [vi k] (.tup [.one (.p (.int .i64 (bK k).1)),.one (.p (.int .i64 (bK k).2))]):=by
 refine aJ c72 ?_;unfold bK;by_cases h2:k=2
 .subst h2;simp only[go_sem,i72];rfl
 by_cases h5:k=5
 .subst h5;simp only[go_sem,i72];rfl
 by_cases h7:k=7
 .subst h7;simp only[go_sem,i72];rfl
 rw[if_neg h2,if_neg h5,if_neg h7];have e2:(k==2)=false:=by simpa using h2
 have e5:(k==5)=false:=by simpa using h5
 have e7:(k==7)=false:=by simpa using h7
 simp only[go_sem,i72,e2,e5,e7];rfl
theorem K0{l:List Pc}(hne:l≠[])(hl:l.length<=1000000):aP S 110 [.one (.p (.sl (hJ l)))] (.one (ah kA 7 (hJ l))):=by
 cases l with
 |nil=>exact absurd rfl hne
 |cons p t=>exact UH p t hl
section
variable {Q:cU} {env:Env} {blk:aw} {os:List aj} {d:Option Nat}
theorem F9{id:Nat}{l:List Pc}{c:C}{g ab b:Int}(hl:l.length<=1000000)(hb: -100<=b/\b<=100)(hr:∀p∈l,-1000000<=p.l.aag/\p.l.aag<=1000000)(hg:grown id kA 7 (hJ l) (.one c) blk)
  (hK:∀aaf,grown id kA 7 (hJ (dr l g ab b)) (.one c) aaf->(∀i,i≠id->aaf i=blk i)->RN S .all os Q (put env d (.tup [])) aaf):gP S .all (.sc 108 [.one c,vi g,vi ab,vi b]) d os Q env blk:=by
 have ho:l=[]\/(allow (S.ctx .all) 108 [.one c,vi g,vi ab,vi b] blk).ok id=true:=by
  rcases mj hg with ⟨h,_⟩|h
  .exact .inl (by simpa using h)
  exact .inr (dA (by simp[h]))
 refine gb (P:=Ox id (hJ (dr l g ab b)) c blk) fy (S9 ho hl hb hr hg) ?_;rintro v aaf ⟨rfl,h1,h2⟩
 exact hK aaf h1 h2
end
theorem In(fs:List Fc):∀(j:Nat) (L:List Nat),∀v∈iS fs j L,v∈L\/v<j+fs.length:=by
 have aaH:∀(ds:List Nat) (L:List Nat) (x:Nat),∀v∈eO L ds x,v∈L\/v=x:=by
  intro ds
  induction ds with
  |nil=>intro L x v h;exact .inl h
  |cons d ds ih=>
   intro L x v h;rcases ih (L.set d x) x v h with h|h
   .rcases List.mem_or_eq_of_mem_set h with h|h
    .exact .inl h
    exact .inr h
   exact .inr h
 induction fs with
 |nil=>intro j L v h;exact .inl h
 |cons f r ih=>
  intro j L v h;rcases ih (j+1) (eO L f.aap j) v h with h|h
  .rcases aaH _ _ _ v h with h|h
   .exact .inl h
   subst h;exact .inr (by simp)
  exact .inr (by simp only[aaz];omega)
def Pk:Fc:=⟨false,[],[],[],false⟩
def ik(F:Nat)(ls:List Let)(d:Nat):Fc:=(aW F ls).getD ((gG F ls).getD d 0) Pk
theorem vn(F:Nat)(ls:List Let):(gG F ls).length=2*ls.length:=by simp[gG,rR]
theorem vB(g:cV F ls){d:Nat}(hd:d<2*ls.length):∃j,(gG F ls)[d]?=some j/\(aW F ls)[j]?=some (ik F ls d)/\j<(aW F ls).length:=by
 obtain⟨j,hj⟩:=ao (ls:=gG F ls) (k:=d) (by rw[vn];exact hd);have hn:0<(aW F ls).length:=by rw[zx,g.nw];omega
 have hjl:j<(aW F ls).length:=by
  rcases In (aW F ls) 0 _ j (aae hj) with h|h
  .have:=adT h;omega
  omega
 refine⟨j,hj,?_,hjl⟩;obtain⟨f,hf⟩:=ao hjl;unfold ik;rw[aaC (l:=gG F ls),hj,abv,aaC,hf];rfl
def YH(b:Nat)(r:Int)(d:Bool):Pc:=⟨⟨1,b,r,0,0,false⟩,d⟩
def Ld(ls:List Let)(av b c:Nat)(f:Fc)(side:Bool):List Pc:=wA (dr (pieces ls) b c 2) [YH b (if f.aaw !=side then ((c+2:Nat):Int) else ((c+1:Nat):Int)) f.aaw,YH b (if f.aaw !=side then ((c+1:Nat):Int) else ((c+2:Nat):Int)) (!f.aaw)] av
def amR(F:Nat)(ls:List Let)(av b c:Nat):Option (List Pc):=
 if (b,c)∈(ik F ls (2*av)).places then some (Ld ls av b c (ik F ls (2*av)) false)
 else if (b,c)∈(ik F ls (2*av+1)).places then some (Ld ls av b c (ik F ls (2*av+1)) true) else none
def kR (o:Option (List Pc)):RV:=.tup [.one (ah kA 7 (hJ (o.getD []))),.one (.p (.bool o.isSome))]
theorem HQ(g:cV F ls):∀p∈pieces ls,-1000000<=p.l.aag/\p.l.aag<=1000000:=by
 intro p hp;obtain⟨i,hi⟩:=abb hp;have hil:i<ls.length:=by rw[<- aB];exact(aai.1 hi).1
 obtain⟨l,hl⟩:=ao hil;rw[cZ hl] at hi;cases hi;rcases g.ok.kinds l (aae hl) with h|h
 .have hg:=g.ok.ax.dX l (aae hl) h;have:=hg.r0;have:=hg.r1;have hc:cg ls l.gate.toNat<=ls.length:=kI _ _;have:=g.len;simp only;omega
 have:=(uf (f:=F) h).1 (g.bad l (aae hl));simp only[this.1.2];omega
def lmR(ls:List Let)(av:Nat)(sg:Int)(o:Bool):List Pc:=wA (pieces ls) [⟨⟨2,0,0,((aA Let.aD ls/2+1:Nat):Int),sg,o⟩,false⟩,⟨⟨2,0,0,((aA Let.aD ls/2+1:Nat):Int),sg,!o⟩,false⟩] av
def rT(n:Nat)(i:Int):Bool:=decide (0<=i)&&decide (i<(n:Int))
theorem Zq(i:Int)(n:Nat):aP S 84 [vi i,.one (.p (.box [.int .i64 n]))] (rb (rT n i)):=by
 refine aJ c84 ?_;unfold rT;by_cases h1:0<=i
 .by_cases h2:i<(n:Int)
  .simp only[go_sem,i84,h1,h2]
  simp only[go_sem,i84,h1,h2]
 simp only[go_sem,i84,h1]
theorem qw(l:List Let):((cA l).all fun e=>e.all PV.scalar)=true:=by simp[Let.ps,PV.scalar]
abbrev jr(F:Nat)(L:List Let):RV:=.tup [.agg [.p (.int .i64 F),ah iM 6 (cA L)],.one (.p (.int .i64 0))]
def GD(F:Nat)(ls:List Let)(k:Int):Option (List Pc)->RV
 |none=>gE 4
 |some L=>if (400:Int)<(ls.length:Int)+(bK k).1\/(100:Int)<((aA Let.aD ls/2:Nat):Int)+(bK k).2 then gE 7 else jr F (lf L)
def rB(h:Nat):List Let:=(List.range (2*h)).map fun i=>⟨1,0,((i+1:Nat):Int),0,0,false⟩
section
variable {h:Nat}
theorem jM:(rB h).length=2*h:=by simp[rB]
theorem qq{i:Nat}(hi:i<2*h):(rB h)[i]?=some ⟨1,0,((i+1:Nat):Int),0,0,false⟩:=by unfold rB;rw[aa0,abT hi];rfl
theorem rA{l:Let}(hl:l∈rB h):∃i,i<2*h/\l=⟨1,0,((i+1:Nat):Int),0,0,false⟩:=by obtain⟨i,hi,rfl⟩:=aaF.1 hl;exact⟨i,aaX.1 hi,rfl⟩
theorem CZ(p:Let->Bool)(hp:∀l∈rB h,p l=true)(k:Nat)(hk:k<=2*h):aA p ((rB h).take k)=k:=by unfold aA;rw[List.countP_eq_length.2 fun l hl=>hp l (acf hl),aa2,jM];omega
theorem Vj:∀l∈rB h,l.aH=true:=fun l hl=>by obtain⟨i,_,rfl⟩:=rA hl;rfl
theorem SR:aA Let.aH (rB h)=2*h:=by have:=CZ (h:=h) Let.aH Vj (2*h) (aaj _);rwa[aa4 (by rw[jM];exact aaj _)] at this
theorem SP:aA Let.aD (rB h)=0:=by unfold aA;rw[adh];intro l hl;obtain⟨i,_,rfl⟩:=rA hl;simp[Let.aD]
theorem Ww:cg (rB h) 0=2*h:=by have:=CZ (h:=h) (Aj 0) (fun l hl=>by obtain⟨i,_,rfl⟩:=rA hl;rfl) (2*h) (aaj _);rwa[aa4 (by rw[jM];exact aaj _)] at this
theorem HA{i:Nat}(hi:i<=2*h):dn (rB h) i=(i%2==0):=by unfold dn;rw[CZ (h:=h) Let.aH Vj i hi]
theorem CY(i:Nat):cY (rB h) ⟨1,0,((i+1:Nat):Int),0,0,false⟩=i:=by unfold cY;have:bi (rB h) 0=0:=rfl;simp only[Int.toNat_zero,this,ab1];omega
theorem ER:j5 1 (rB h)=true:=by
 refine(j4 (F:=1)).2 ⟨?_,?_,?_⟩
 .rw[acW];intro l hl;obtain⟨i,_,rfl⟩:=rA hl;simp[ch]
 .refine(jD (F:=1) fun l hl hp=>?_).2 ⟨fun l hl hp=>?_,fun i j l m h1 h2 _ _ he=>?_⟩
  .obtain⟨i,_,rfl⟩:=rA hl;exact⟨by simp,by simp⟩
  .obtain⟨i,hi,rfl⟩:=rA hl;refine⟨by simp,by simp,by simp;omega,?_⟩;show((i+1:Nat):Int)<=(cg (rB h) (0:Int).toNat:Int);rw[Int.toNat_zero,Ww];omega
  have i1:=(aai.1 h1).1;have i2:=(aai.1 h2).1;rw[jM] at i1 i2;rw[qq i1] at h1;rw[qq i2] at h2;cases h1;cases h2;rw[CY,CY] at he;exact he
 unfold dK;have h0:dI (rB h) (rB h).length=[]:=by
  have:∀k,k<=2*h->dI (rB h) k=[]:=by
   intro k
   induction k with
   |zero=>intro _;rfl
   |succ k ih=>intro hk;unfold dI;rw[qq (show k<2*h by omega),ih (by omega)];rfl
  exact this _ (by rw[jM];exact aaj _)
 rw[h0,SP];simp only[aay];refine⟨⟨rfl,aba.2 fun k hk=>?_⟩,rfl⟩;have hk:=aaX.1 hk;rw[jM] at hk;unfold vT;rw[qq hk];rfl
theorem N4(hh:h<=500000):dS 1 (rB h):=by
 obtain⟨hb1,hrk,hcr⟩:=(j4 (F:=1)).1 (ER (h:=h));have hbl:∀l∈rB h,ch 1 l=false:=fun l hl=>by simpa using acW.1 hb1 l hl
 have hg:iV 1 (rB h):=fun l hl hp=>((dG hp).1 (hbl l hl)).1.1.1;obtain⟨g1,g2⟩:=(jD hg).1 hrk;exact⟨by rw[jM];omega,⟨g1,g2⟩,hcr,fun l hl=>fU (hbl l hl)⟩
theorem C0:(ae (rB h)).length=2*h:=by rw[lK,SR]
theorem Wx(hh:h<=500000){i:Nat}(hi:i<2*h):(ae (rB h))[i]?=some i:=by have:=pK (N4 hh).ax (qq hi) rfl;rwa[CY] at this
theorem SQ(hh:h<=500000){i:Nat}(hi:i<2*h):(ae (rB h)).getD i 0=i:=by rw[aaC,Wx hh hi];rfl
theorem JC(hh:h<=500000){i:Nat}(hi:i<2*h):(ae (rB h)).idxOf i=i:=by rw[nN (N4 hh).ax (qq hi) rfl,CY]
theorem Wv(hh:h<=500000){p:Nat}(hp:p<2*h):cq (rB h) (4*h+2*p)=aI (2*h) ((p+1)%(2*h)) (!(((p+1)%(2*h))%2==0)):=by have hm:=aaN (p+1) (show 0<2*h by omega);show gC _ _ _=_;unfold gC;rw[jM,C0,if_pos (by omega),if_pos (by omega),show(4*h+2*p-2*(2*h))/2=p by omega,SQ hh hm,HA (Nat.le_of_lt hm)]
theorem N5(hh:h<=500000){e:Nat}(he:e<2*h):cq (rB h) (2*e)=if ((e+1)%(2*h))%2=0 then 4*h+2*((e+1)%(2*h)) else 4*h+2*(((e+1)%(2*h)+2*h-1)%(2*h))+1:=by
 have hm:=aaN (e+1) (show 0<2*h by omega);show gC _ _ _=_;unfold gC;rw[jM,C0,if_neg (by omega)];have e1:(2*e%2==0)=true:=by simp
 simp only[e1,if_true,show 2*e/2=e by omega,qq hm,JC hh hm,HA (Nat.le_of_lt hm)];generalize (e+1)%(2*h)=m;by_cases c:m%2=0
 .simp[c];omega
 simp[c];omega
theorem N6(hh:h<=500000){e:Nat}(he:e<2*h):cq (rB h) (2*e+1)=if e%2=0 then 4*h+2*((e+2*h-1)%(2*h))+1 else 4*h+2*e:=by
 show gC _ _ _=_;unfold gC;rw[jM,C0,if_neg (by omega)];have e1:((2*e+1)%2==0)=false:=by simp
 simp only[e1,aaE,if_false,show(2*e+1)/2=e by omega,qq he,JC hh he,HA (Nat.le_of_lt he)];by_cases c:e%2=0
 .simp[c];omega
 have:(e%2==0)=false:=by simpa using c
 simp[c];omega
end
section
variable {h:Nat}
theorem WZ{n e:Nat}(he:e<n):(e+1)%n=if e+1=n then 0 else e+1:=by
 by_cases c:e+1=n
 .rw[if_pos c,c,acK]
 rw[if_neg c,aa7 (by omega)]
theorem TE{n m:Nat}(hm:m<n):(m+n-1)%n=if m=0 then n-1 else m-1:=by
 by_cases c:m=0
 .rw[if_pos c];subst c;rw[abd,aa7 (by omega)]
 rw[if_neg c,show m+n-1=(m-1)+n by omega,acn,aa7 (by omega)]
theorem v1(hh:h<=500000){e:Nat}(he:e<2*h)(c:e%2=0):cq (rB h) (2*e)=4*h+2*e+1:=by rw[N5 hh he,WZ he,if_neg (by omega:¬e+1=2*h),if_neg (by omega),TE (by omega),if_neg (by omega)];omega
theorem v2(hh:h<=500000){e:Nat}(he:e<2*h)(c:e%2=1):∃q,q<2*h/\q%2=0/\(e+1<2*h->q=e+1)/\cq (rB h) (2*e)=4*h+2*q:=by
 rw[N5 hh he,WZ he];by_cases d:e+1=2*h
 .rw[if_pos d];exact⟨0,by omega,rfl,by omega,rfl⟩
 rw[if_neg d,if_pos (by omega)];exact⟨e+1,by omega,by omega,fun _=>rfl,rfl⟩
theorem v3(hh:h<=500000){e:Nat}(he:e<2*h)(c:e%2=0):∃q,q<2*h/\q%2=1/\(1<=e->q=e-1)/\cq (rB h) (2*e+1)=4*h+2*q+1:=by
 rw[N6 hh he,if_pos c,TE he];by_cases d:e=0
 .rw[if_pos d];exact⟨2*h-1,by omega,by omega,by omega,rfl⟩
 rw[if_neg d];exact⟨e-1,by omega,by omega,fun _=>rfl,rfl⟩
theorem v4(hh:h<=500000){e:Nat}(he:e<2*h)(c:e%2=1):cq (rB h) (2*e+1)=4*h+2*e:=by rw[N6 hh he,if_neg (by omega)]
theorem v5(hh:h<=500000){p:Nat}(hp:p<2*h)(c:p%2=1):cq (rB h) (4*h+2*p)=2*p+1:=by
 rw[Wv hh hp,WZ hp];by_cases d:p+1=2*h
 .rw[if_pos d];show aI (2*h) 0 false=_;unfold aI;rw[if_neg (by decide),TE (by omega),if_pos rfl];omega
 rw[if_neg d];have:(!((p+1)%2==0))=false:=by simp;omega
 rw[this];unfold aI;rw[if_neg (by decide),TE (by omega),if_neg (by omega)];omega
end
theorem zu(L:List Pc):(lf L).length=L.length:=by simp[lf,tU]
theorem rU(l x:List Pc)(k:Nat):(wA l x k).length=l.length+x.length:=by simp only[wA,aaY,aa2,abk];omega
end
end Go.Abs
