/- A part. -/
import Derived.Test.YtjdfokaegjgddaaGreatDoorWh
set_option linter.all false
set_option maxRecDepth 100000
set_option maxHeartbeats 16000000
namespace Go.Abs
section
variable{ls:List Let}{F:Nat}
theorem W3{e:List PV}(h:e.length=1):∃x0,e=[x0]:=by
 match e,h with
 |[a],_=>exact⟨a,rfl⟩
theorem W2{e:List PV}(h:e.length=2):∃x0 x1,e=[x0,x1]:=by
 match e,h with
 |[a,b],_=>exact⟨a,b,rfl⟩
theorem WZ{e:List PV}(h:e.length=7):∃x0 x1 x2 x3 x4 x5 x6,e=[x0,x1,x2,x3,x4,x5,x6]:=by
 match e,h with
 |[a,b,c,d,f,g,i],_=>exact⟨a,b,c,d,f,g,i,rfl⟩
structure Hz (es fs:List (List PV)) (k:Nat):Prop where
 len:fs.length=es.length
 at':∀i,i<es.length->fs[i]?=if i<k\/es.length-1-i<k then es[es.length-1-i]? else es[i]?
theorem Hz.start(es:List (List PV)):Hz es es 0:=⟨rfl,fun i _=>by rw[if_neg (by omega)]⟩
theorem Hz.step{es fs:List (List PV)}{k:Nat}{a b:List PV}(h:Hz es fs k)(hk:k<es.length-1-k)(ha:es[k]?=some a)(hb:es[es.length-1-k]?=some b):
  fs[k]?=some a/\fs[es.length-1-k]?=some b/\Hz es ((fs.set k b).set (es.length-1-k) a) (k+1):=by
 have hlen:=h.len;refine⟨?_,?_,⟨by rw[abi,abi];exact hlen,fun i hi=>?_⟩⟩
 .rw[h.at' k (by omega),if_neg (by omega),ha]
 .rw[h.at' _ (by omega),if_neg (by omega),hb]
 rw[abj,abi];by_cases e1:es.length-1-k=i
 .rw[if_pos e1,if_pos (by omega),if_pos (by omega),show es.length-1-i=k by omega,ha]
 rw[if_neg e1,abj];by_cases e2:k=i
 .subst e2;rw[if_pos rfl,if_pos (by omega),if_pos (by omega),hb]
 rw[if_neg e2,h.at' i hi];by_cases e3:i<k\/es.length-1-i<k
 .rw[if_pos e3,if_pos (by omega)]
 rw[if_neg e3,if_neg (by omega)]
theorem Hz.done{es fs:List (List PV)}{k:Nat}(h:Hz es fs k)(hk:¬k<es.length-1-k):fs=es.reverse:=by
 refine adx fun i=>?_;rcases Nat.lt_or_ge i es.length with hi|hi
 .rw[h.at' i hi,List.getElem?_reverse hi];by_cases e:i<k\/es.length-1-i<k
  .rw[if_pos e]
  rw[if_neg e,show es.length-1-i=i by omega]
 rw[abz (by rw[h.len];exact hi),abz (by rw[abp];exact hi)]
def qp(id ty z:Nat)(es:List (List PV))(c:C)(X9:aE)(v:V)(Ya:aE):Prop:=v=.tup []/\grown id ty z es.reverse (.one c) Ya/\Kept (· =id) X9 Ya
theorem Oe{al:Al}{X9:aE}{id ty:Nat}{es:List (List PV)}{c:C}(o:es=[]\/al.ok id=true)(hl:es.length<=1000000)(hes:∀e∈es,e.length=1/\ ∀v∈e,v.norm=v)(h:grown id ty 1 es (.one c) X9):
  ∃v Ya,vN S 113 [.one c] al X9 v Ya/\qp id ty 1 es c X9 v Ya:=by
 refine iS c113 (aaU rfl) ?_;rcases h with ⟨rfl,h2⟩|⟨Yk,g,h2,hC⟩
 .cases h2;have w0:IntKind.i64.wrap (((0:Nat):Int)-1)= -1:=by decide
  have hz:¬((0:Int)< -1):=by decide
  simp only[go_sem,i113,w0];refine bm (fun k env Ya=>k=0/\env 2=vi 0/\env 3=vi (-1)/\Ya=X9) 0 0 (aad _) ?_ ?_
  .simp only[go_sem]
  rintro k env Ya _ ⟨rfl,h2,h3,rfl⟩
  simp only[go_sem,i113_l1,h2,h3,hz];exact⟨rfl,.inl ⟨rfl,rfl⟩,fun _ _=>rfl⟩
 cases h2;have o:=o.resolve_left Yk;have w0:=gV (a:=es.length) (by omega);simp only[go_sem,i113,w0];refine bm (fun k env Ya=>env 0=.one (.hsl id g 1 0 es.length)/\env 2=vi k/\env 3=vi ((es.length:Int)-1-(k:Int))/\ ∃fs,Ya id=(g,some (.arr ty 1 fs))/\Hz es fs k/\Kept (· =id) X9 Ya) 0 es.length (aae _) ?_ ?_
 .simp only[go_sem];refine⟨rfl,by simp,es,hC,Hz.start es,Kept.refl _ _⟩
 rintro k env Ya hk ⟨h0,h2,h3,fs,hF,hI,YB⟩
 by_cases Ye:k<es.length-1-k
 .have e1:((es.length:Int)-1-(k:Int))=((es.length-1-k:Nat):Int):=by omega
  rw[e1] at h3;have Yf:((k:Int)<((es.length-1-k:Nat):Int)):=by omega
  have w1:=ah (n:=k) (by omega);have w2:IntKind.i64.wrap (((es.length-1-k:Nat):Int)-1)=((es.length:Int)-1-((k+1:Nat):Int)):=by rw[gV (by omega)];omega
  obtain⟨a,ha⟩:=ai (show k<es.length by omega);obtain⟨b,hb⟩:=ai (show es.length-1-k<es.length by omega);obtain⟨fa,fb,hI2⟩:=hI.step Ye ha hb;obtain⟨la,na⟩:=hes a (aab ha);obtain⟨lb,nb⟩:=hes b (aab hb);obtain⟨x0,rfl⟩:=W3 la;obtain⟨y0,rfl⟩:=W3 lb;have acG:=na x0 (by simp);have acF:=nb y0 (by simp);have hfl:=hI.len;have hkj:¬(k=es.length-1-k):=by omega
  have ai2:¬(es.length-1-k=k):=by omega
  have l1:k<fs.length:=by omega
  have l2:es.length-1-k<fs.length:=by omega
  have l3:k<es.length:=by omega
  have l4:es.length-1-k<es.length:=by omega
  simp only[go_sem,i113_l1,h0,h2,h3,hF,Yf,fa,fb,w1,w2,o,l1,l3,l4,hkj,acG,acF,abj];refine⟨aH,_,rfl,hI2,?_⟩;exact(YB.ij rfl _).ij rfl _
 have Yf:¬((k:Int)<(es.length:Int)-1-(k:Int)):=by omega
 simp only[go_sem,i113_l1,h2,h3,Yf];refine⟨rfl,?_,YB⟩;rw[hI.done Ye] at hF;exact .inr ⟨by simpa using Yk,g,by rw[abp],hF⟩
theorem HA{al:Al}{X9:aE}{id ty:Nat}{es:List (List PV)}{c:C}(o:es=[]\/al.ok id=true)(hl:es.length<=1000000)(hes:∀e∈es,e.length=2/\ ∀v∈e,v.norm=v)(h:grown id ty 2 es (.one c) X9):
  ∃v Ya,vN S 112 [.one c] al X9 v Ya/\qp id ty 2 es c X9 v Ya:=by
 refine iS c112 (aaU rfl) ?_;rcases h with ⟨rfl,h2⟩|⟨Yk,g,h2,hC⟩
 .cases h2;have w0:IntKind.i64.wrap (((0:Nat):Int)-1)= -1:=by decide
  have hz:¬((0:Int)< -1):=by decide
  simp only[go_sem,i112,w0];refine bm (fun k env Ya=>k=0/\env 2=vi 0/\env 3=vi (-1)/\Ya=X9) 0 0 (aad _) ?_ ?_
  .simp only[go_sem]
  rintro k env Ya _ ⟨rfl,h2,h3,rfl⟩
  simp only[go_sem,i112_l1,h2,h3,hz];exact⟨rfl,.inl ⟨rfl,rfl⟩,fun _ _=>rfl⟩
 cases h2;have o:=o.resolve_left Yk;have w0:=gV (a:=es.length) (by omega);simp only[go_sem,i112,w0];refine bm (fun k env Ya=>env 0=.one (.hsl id g 2 0 es.length)/\env 2=vi k/\env 3=vi ((es.length:Int)-1-(k:Int))/\ ∃fs,Ya id=(g,some (.arr ty 2 fs))/\Hz es fs k/\Kept (· =id) X9 Ya) 0 es.length (aae _) ?_ ?_
 .simp only[go_sem];refine⟨rfl,by simp,es,hC,Hz.start es,Kept.refl _ _⟩
 rintro k env Ya hk ⟨h0,h2,h3,fs,hF,hI,YB⟩
 by_cases Ye:k<es.length-1-k
 .have e1:((es.length:Int)-1-(k:Int))=((es.length-1-k:Nat):Int):=by omega
  rw[e1] at h3;have Yf:((k:Int)<((es.length-1-k:Nat):Int)):=by omega
  have w1:=ah (n:=k) (by omega);have w2:IntKind.i64.wrap (((es.length-1-k:Nat):Int)-1)=((es.length:Int)-1-((k+1:Nat):Int)):=by rw[gV (by omega)];omega
  obtain⟨a,ha⟩:=ai (show k<es.length by omega);obtain⟨b,hb⟩:=ai (show es.length-1-k<es.length by omega);obtain⟨fa,fb,hI2⟩:=hI.step Ye ha hb;obtain⟨la,na⟩:=hes a (aab ha);obtain⟨lb,nb⟩:=hes b (aab hb);obtain⟨x0,x1,rfl⟩:=W2 la;obtain⟨y0,y1,rfl⟩:=W2 lb;have acG:=na x0 (by simp);have aew:=na x1 (by simp);have acF:=nb y0 (by simp);have aev:=nb y1 (by simp);have hfl:=hI.len;have hkj:¬(k=es.length-1-k):=by omega
  have ai2:¬(es.length-1-k=k):=by omega
  have l1:k<fs.length:=by omega
  have l2:es.length-1-k<fs.length:=by omega
  have l3:k<es.length:=by omega
  have l4:es.length-1-k<es.length:=by omega
  simp only[go_sem,i112_l1,h0,h2,h3,hF,Yf,fa,fb,w1,w2,o,l1,l3,l4,hkj,acG,aew,acF,aev,abj];refine⟨aH,_,rfl,hI2,?_⟩;exact(YB.ij rfl _).ij rfl _
 have Yf:¬((k:Int)<(es.length:Int)-1-(k:Int)):=by omega
 simp only[go_sem,i112_l1,h2,h3,Yf];refine⟨rfl,?_,YB⟩;rw[hI.done Ye] at hF;exact .inr ⟨by simpa using Yk,g,by rw[abp],hF⟩
theorem mt{site ty z:Nat}{es:List (List PV)}{c:C}{X9:aE}(h:grown site ty z es (.one c) X9):(es=[]/\eQ X9 (.one c)=[])\/eQ X9 (.one c)=[site]:=by
 rcases h with ⟨h1,h2⟩|⟨h1,g,h2,h3⟩
 .cases h2;exact .inl ⟨h1,CX⟩
 cases h2;exact .inr (show eJ X9 6 (.hsl site g z 0 es.length)=[site] from lc (n:=5) h3)
section
variable {al:Al} {Q:dO} {env:Env} {X9:aE} {os:List aj} {d:Option Nat}
theorem Px{f id ty z:Nat}{es:List (List PV)}{c:C}(aiE:∀ {al:Al} {X9:aE},es=[]\/al.ok id=true->grown id ty z es (.one c) X9->∃v Ya,vN S f [.one c] al X9 v Ya/\qp id ty z es c X9 v Ya)(hs:S.sites f=[f])(hg:grown id ty z es (.one c) X9)(oid:al.ok id=true)(hf:al.fs.contains f=true)
  (hK:∀Ya,grown id ty z es.reverse (.one c) Ya->(∀i,i≠id->Ya i=X9 i)->RN S al os Q (put env d (.tup [])) Ya):gP S al (.sc f [.one c]) d os Q env X9:=by
 refine jF (P:=qp id ty z es c X9) (holds_of ?_ ?_) (aiE ?_ hg) ?_
 .show al.mX ([V.one c].map (eQ X9)).flatten=true;rcases mt hg with ⟨_,h⟩|h
  .simp[h,Al.mX]
  simp[h,Al.mX,oid]
 .show(S.sites f).all al.fs.contains=true;rw[hs];simp only[ab9,acH,hf,Bool.and_self]
 .rcases mt hg with ⟨h,_⟩|h
  .exact .inl h
  exact .inr (ie (by simp[h]))
 rintro v Ya ⟨rfl,h1,h2⟩
 exact hK Ya h1 h2
end
theorem Rq:S.sites 112=[112]:=by kernel_rfl
theorem Rr:S.sites 113=[113]:=by kernel_rfl
theorem qe(ok:dT F ls){x:Nat}(h:x<nD ls):bU ls x<nD ls:=tM ok.sE ok.hp h
abbrev pV(id:Nat):Prop:=eW id=92
structure FE (ls:List Let) (idS gS idB gB g8 gF:Nat) (sp:List Bool) (f:Fc) (cd cp cf:C) (X9:aE):Prop where
 bS:X9 idS=(gS,some (.arr 4 1 (bP sp)))
 bB:X9 idB=(gB,some (.arr 4 1 (bP (DU ls))))
 b8:X9 5888000000=(g8,some (.var [.p (.bool false),.p .nils,.p .nils,.p .nils,.p (.bool false)]))
 bF:X9 5888128448=(gF,some (.var [.p (.bool f.Ym),cd,cp,cf,.p (.bool f.outer)]))
 gd:grown 5888512256 3 1 (nP f.Yj) (.one cd) X9
 gp:grown 5888896192 Dc 2 (we f.places) (.one cp) X9
 gf:grown 5888896448 3 1 (nP f.YO) (.one cf) X9
theorem TN(ok:dT F ls){f:Fc}{x k:Nat}(hx:x<nD ls)(h:f.Yj.length<=k/\f.places.length<=k*(2*F+2)/\f.YO.length<=k*(2*F+2)):(f.add F ls x).Yj.length<=k+1/\(f.add F ls x).places.length<=(k+1)*(2*F+2)/\(f.add F ls x).YO.length<=(k+1)*(2*F+2):=by
 obtain⟨i1,i2,i3⟩:=h;rw[Nat.succ_mul];unfold Fc.add;by_cases h:x<2*ls.length
 .rw[if_pos h];simp only[aaF,aas,aaA];exact⟨by omega,by omega,by omega⟩
 rw[if_neg h];have hj:(x-2*ls.length)/2<(aa ls).length:=by unfold nD at hx;omega
 have l1:=sV ok hj;have l2:=sW ok hj;refine⟨by simp only;omega,?_,?_⟩
 .simp only[aaF];split<;>(try rw[abp])<;>omega
 simp only[aaF];split<;>(try rw[abp])<;>omega
theorem VT{al:Al}(ok:dT F ls)(hF:F<=1000)(okf:∀id,pV id->al.ok id=true){idS gS idB gB g8 gF d:Nat}(oS:al.ok idS=true)(nS:¬pV idS)(nB:¬pV idB)(nSB:idS≠idB)(f1:al.fs.contains 112=true)(f2:al.fs.contains 113=true)(hd:d<2*ls.length){Q:dO}:
  ∀(fuel k x:Nat) (Zs:List Bool) (f:Fc) (env:Env) (X9:aE) (cd cp cf:C),env 0=.one (.p (xC F ls))->env 2=.one (.hsl idS gS 1 0 (2*ls.length))->env 8=.one (.Yh 5888000000 g8 0)->env 9=vi ls.length->env 10=vi (aa ls).length->env 11=.one (.Yh 5888128448 gF 0)->env 12=vi x->
   FE ls idS gS idB gB g8 gF (Zs.take (2*ls.length)) f cd cp cf X9->Zs.length=nD ls->x<nD ls->Inv (bU ls) (nD ls) d Zs x->ko Zs<fuel->(k+fuel<=5000000)->(f.Yj.length<=k/\f.places.length<=k*(2*F+2)/\f.YO.length<=k*(2*F+2))->
   (∀Yc Ya cd' cp' cf',Yc 8=env 8->Yc 11=env 11->FE ls idS gS idB gB g8 gF ((cH (bU ls) fuel x Zs).2.take (2*ls.length)) ((cH (bU ls) fuel x Zs).1.foldl (Fc.add F ls) f) cd' cp' cf' Ya->(∀id,¬(pV id\/id=idS)->Ya id=X9 id)->Q .normal Yc Ya)->
   W S al (.loop i92_l1) (fQ 0 Q) env X9:=by
 have hl:=ok.hl;have ZP:(aa ls).length<=1000000:=abc (fv ls ls.length) hl;have Zx:nD ls<=4000000:=by unfold nD;omega
 have m2:=dr (a:=ls.length) (by omega);have k0:al.ok 5888000000=true:=okf _ rfl;have kF:al.ok 5888128448=true:=okf _ rfl;have kd0:al.ok 5888512192=true:=okf _ rfl;have kd:al.ok 5888512256=true:=okf _ rfl;have kp:al.ok 5888896192=true:=okf _ rfl;have kf:al.ok 5888896448=true:=okf _ rfl;have kr1:al.ok 5888640128=true:=okf _ rfl;have kr2:al.ok 5888640129=true:=okf _ rfl;have hm:=maps ok;intro fuel
 induction fuel with
 |zero=>intro k x Zs f env X9 cd cp cf _ _ _ _ _ _ _ _ _ _ _ h;omega
 |succ fuel ih=>
  intro k x Zs f env X9 cd cp cf h0 h2 h8 h9 YN Zn h12 hB hSl hxn hi hu hk hlen hq;have hle:=hm.le;obtain⟨l1,l2,l3⟩:=hlen;have aoW:k*(2*F+2)<=5000000*2002:=Nat.mul_le_mul (by omega) (by omega);have aaj:=TN ok hxn ⟨l1,l2,l3⟩;unfold cH at hq;have nSi:∀ {a:Nat},pV a->a≠idS:=fun h e=>nS (e▸h);have nBi:∀ {a:Nat},pV a->a≠idB:=fun h e=>nB (e▸h);have nF:¬(5888128448=idS):=nSi rfl;refine fT ?_;cases hs:Zs.getD x true with
  |true=>
   have hxd:=hi.i4 hs;have Ye:x<2*ls.length:=by omega
   have Yf:((x:Int)<((2*ls.length:Nat):Int)):=by omega
   rw[hs] at hq;simp only[if_true] at hq;have hb:(Zs.take (2*ls.length))[x]?=some true:=by
    have h1:=CO Ye (show 2*ls.length<=Zs.length by omega);rw[show sn Zs x=true from hs,aal] at h1;have hx2:x<(Zs.take (2*ls.length)).length:=by rw[aay];omega
    obtain⟨b,hb⟩:=ai hx2;rw[hb] at h1 ⊢;exact congrArg some h1
   have hbp:=km hb;simp only[go_sem,i92_l1,h0,h2,h9,h12,m2,Yf,Ye,hB.bS,hbp,oS];exact hq _ _ cd cp cf (by simp only[go_sem]) (by simp only[go_sem]) hB (fun _ _=>rfl)
  |false=>
   have hsx:Zs[x]?=some false:=by
    rw[aal] at hs;cases h1:Zs[x]? with
    |none=>rw[h1] at hs;cases hs
    |some b=>rw[h1] at hs;exact congrArg some hs
   have hun:=lB hsx;have pt:=Kv ok x (by unfold nD at hxn;exact hxn);have Yz:=hi.step hm hSl hxn hs;rw[hs] at hq;simp only[aaq,if_false,ab3] at hq;by_cases hd2:x<2*ls.length
   .have Yf:((x:Int)<((2*ls.length:Nat):Int)):=by omega
    have hb:(Zs.take (2*ls.length))[x]?=some false:=by rw[aa3,if_pos hd2];exact hsx
    have hbp:=km hb;have YA:=vF (Zs.take (2*ls.length)) x true;rw[vX] at YA;have ao1:f.add F ls x={f with Yj:=f.Yj++[x]}:=by unfold Fc.add;rw[if_pos hd2]
    simp only[go_sem,i92_l1,h2,h9,Zn,h12,m2,Yf,hd2,hB.bS,hB.bF,hbp,YA,oS,kF,kd0,nF];refine xA (site:=5888512256) (id:=5888512256) (bytes:=8) (xs:=[[.int .i64 (x:Int)]]) (rd:=[5888512192]) (by simp[kd,kd0]) (hB.gd.of_eq ((af (by decide)).trans (af (nSi rfl)))) (by simp[cM,ae]) (.inl rfl) (by simp only[aah,aas,aaA];omega) fun c Yg hc Yp=>?_;have adF:∀i,i≠5888512192->i≠5888512256->i≠idS->Yg i=X9 i:=fun i a b c=>(Yp i b b).trans ((af a).trans (af c))
    have aoG:=(Yp idS (nSi rfl).symm (nSi rfl).symm).trans ((af (nSi rfl).symm).trans lz);have bF2:=(adF 5888128448 (by decide) (by decide) (nSi rfl)).trans hB.bF;simp only[go_sem,bF2,h0,Zn,h12,kF,s90,jG pt];refine ih (k+1) (bU ls x) (Zs.set x true) (f.add F ls x) _ _ c cp cf ?_ ?_ ?_ ?_ ?_ ?_ ?_ ?_ (by rw[abi];exact hSl) (qe ok hxn) Yz (by omega) (by omega) aaj ?_
    .simp only[go_sem,h0]
    .simp only[go_sem,h2]
    .simp only[go_sem,h8]
    .simp only[go_sem,h9]
    .simp only[go_sem,YN]
    .simp only[go_sem,Zn]
    .simp only[go_sem]
    .rw[ao1];refine⟨?_,?_,?_,lz,?_,?_,?_⟩
     .exact(af (nSi rfl).symm).trans aoG
     .exact(af (nBi rfl).symm).trans ((adF _ (nBi rfl).symm (nBi rfl).symm nSB.symm).trans hB.bB)
     .exact(af (by decide)).trans ((adF _ (by decide) (by decide) (nSi rfl)).trans hB.b8)
     .exact(u7 _ _▸hc.of_eq (af (by decide)))
     .exact(hB.gp.of_eq (adF _ (by decide) (by decide) (nSi rfl))).of_eq (af (by decide))
     exact(hB.gf.of_eq (adF _ (by decide) (by decide) (nSi rfl))).of_eq (af (by decide))
    intro Yc Ya cd' cp' cf' q8 q11 hFE YB;refine hq Yc Ya cd' cp' cf' (by rw[q8];simp only[go_sem]) (by rw[q11];simp only[go_sem]) hFE fun id hn=>?_;have a:∀y,pV y->id≠y:=fun y hy e=>hn (.inl (e▸hy));exact(YB id hn).trans ((af (a _ rfl)).trans (adF id (a _ rfl) (a _ rfl) fun e=>hn (.inr e)))
   have hj:(x-2*ls.length)/2<(aa ls).length:=by unfold nD at hxn;omega
   have hpr:=WK ok hF hj;have lP:=sV ok hj;have lF:=sW ok hj;have hd':¬((x:Int)<((2*ls.length:Nat):Int)):=by omega
   have ws:=xL (a:=x) (b:=2*ls.length) (by omega) (by omega);have wq:=wrap_small (n:=(x-2*ls.length)/2) (by omega);have w2:=jw (a:=(aa ls).length) (by omega) (by omega);have ag3:((((x-2*ls.length)/2:Nat):Int)==(((aa ls).length-1:Nat):Int))=decide ((x-2*ls.length)/2+1=(aa ls).length):=by
    by_cases h:(x-2*ls.length)/2+1=(aa ls).length
    .rw[decide_eq_true h];simp;omega
    rw[decide_eq_false h];simp;omega
   have Zj:(f.add F ls x).outer=(f.outer||decide ((x-2*ls.length)/2+1=(aa ls).length)):=by unfold Fc.add;rw[if_neg hd2]
   have aa7:(f.add F ls x).Ym=f.Ym:=by unfold Fc.add;rw[if_neg hd2]
   have aa5:(f.add F ls x).Yj=f.Yj:=by unfold Fc.add;rw[if_neg hd2]
   have ZB:(f.add F ls x).places=f.places++(if x%2=0 then fU F ls ((x-2*ls.length)/2) else (fU F ls ((x-2*ls.length)/2)).reverse):=by unfold Fc.add;rw[if_neg hd2]
   have aaK:(f.add F ls x).YO=f.YO++(if x%2=0 then ow F ls ((x-2*ls.length)/2) else (ow F ls ((x-2*ls.length)/2)).reverse):=by unfold Fc.add;rw[if_neg hd2]
   generalize f.add F ls x=f' at Zj aa7 aa5 ZB aaK hq aaj;have lo1:S.lone 5888640128=false:=by kernel_rfl
   have sc1:∀l:List (Nat×Nat),((we l).all fun e=>e.all PV.scalar)=true:=fun l=>by simp[PV.scalar]
   have sc2:∀l:List Nat,((nP l).all fun e=>e.all PV.scalar)=true:=fun l=>by simp[PV.scalar]
   have hnP:∀l:List (Nat×Nat),∀e∈we l,e.length=2/\ ∀v∈e,v.norm=v:=fun l e he=>by obtain⟨a,_,rfl⟩:=aan.1 he;exact⟨rfl,fun v hv=>by simp at hv;rcases hv with rfl|rfl<;>rfl⟩
   have hnF:∀l:List Nat,∀e∈nP l,e.length=1/\ ∀v∈e,v.norm=v:=fun l e he=>by obtain⟨a,_,rfl⟩:=aan.1 he;exact⟨rfl,fun v hv=>by simp at hv;rcases hv with rfl;rfl⟩
   have sy:S.shared 112=true:=by kernel_rfl
   have shI:S.shared 113=true:=by kernel_rfl
   have htk:(Zs.set x true).take (2*ls.length)=Zs.take (2*ls.length):=vY (by omega);generalize fU F ls ((x-2*ls.length)/2)=PP at*;generalize ow F ls ((x-2*ls.length)/2)=FF at*;simp only[go_sem,i92_l1,h0,h9,h12,m2,hd',ws,wq,ba,cY,s111];refine VN (by simp[kr1,kr2]) hpr lo1 (sc1 _) (sc2 _) fun c e Yi hc he hb=>?_;by_cases YU:x%2=0
   .have aes:((x:Int).tmod 2==1)=false:=by rw[eH,YU];rfl
    rw[if_pos YU] at ZB aaK;have hP:=hc;have hE:=he;have hbA:∀i,i≠5888640128->i≠5888640129->Yi i=X9 i:=hb;have bFN:=(hbA 5888128448 (by decide) (by decide)).trans hB.bF;simp only[go_sem,ba,aes,bFN,Zn,h12,kF];obtain⟨rP,hxP,hrP⟩:=hP.elems;refine xF (site:=5888896192) (id:=5888896192) (bytes:=16) (by rcases hrP with rfl|rfl<;>simp[kp,kr1]) (hB.gp.of_eq (hbA _ (by decide) (by decide))) hxP hP.iD (by simp only[aah];omega) fun c2 al9 r1 u1 hc2 hb4 Y0=>?_
    have bF2:=(hb4 5888128448 (by decide) (by decide)).trans bFN;simp only[go_sem,bF2,Zn,kF];obtain⟨rE,hxE,hrE⟩:=(hE.of_eq (hb4 _ (by decide) (by decide))).elems;refine xF (site:=5888896448) (id:=5888896448) (bytes:=8) (by rcases hrE with rfl|rfl<;>simp[kf,kr2]) (hB.gf.of_eq ((hb4 _ (by decide) (by decide)).trans (hbA _ (by decide) (by decide)))) hxE hE.iD (by simp only[aah];omega) fun c3 acs r2 u2 hc3 hb5 hr2=>?_
    have bF3:=(hb5 5888128448 (by decide) (by decide)).trans bF2;have Yt:∀i,i≠5888640128->i≠5888640129->i≠5888896192->i≠5888896448->acs i=X9 i:=fun i a b c d=>(hb5 i d d).trans ((hb4 i c c).trans (hbA i a b));have ae0:grown 5888896192 Dc 2 (we f'.places) (.one c2) acs:=by rw[ZB,rA];exact hc2.of_eq (hb5 _ (by decide) (by decide))
    have aeZ:grown 5888896448 3 1 (nP f'.YO) (.one c3) acs:=by rw[aaK,u7];exact hc3
    clear hc2 hc3;cases ho:f.outer with
    |true=>
     rw[ho] at bF3;simp only[go_sem,bF3,h0,Zn,h12,kF,s90,jG pt];refine⟨?_,?_⟩
     .rcases hrP with rfl|rfl<;>rcases hrE with rfl|rfl<;>rcases Y0 with ⟨rfl,rfl⟩|⟨rfl,rfl⟩|⟨rfl,rfl⟩<;>rcases hr2 with ⟨rfl,rfl⟩|⟨rfl,rfl⟩|⟨rfl,rfl⟩<;>kernel_rfl
     refine ih (k+1) (bU ls x) (Zs.set x true) f' _ _ cd c2 c3 ?_ ?_ ?_ ?_ ?_ ?_ ?_ ?_ (by rw[abi];exact hSl) (qe ok hxn) Yz (by omega) (by omega) aaj ?_
     .simp only[go_sem,h0]
     .simp only[go_sem,h2]
     .simp only[go_sem,h8]
     .simp only[go_sem,h9]
     .simp only[go_sem,YN]
     .simp only[go_sem,Zn]
     .simp only[go_sem]
     .rw[htk];refine⟨?_,?_,?_,?_,?_,?_,?_⟩
      .exact(af (nSi rfl).symm).trans ((af (nSi rfl).symm).trans ((af (nSi rfl).symm).trans ((Yt _ (nSi rfl).symm (nSi rfl).symm (nSi rfl).symm (nSi rfl).symm).trans hB.bS)))
      .exact(af (nBi rfl).symm).trans ((af (nBi rfl).symm).trans ((af (nBi rfl).symm).trans ((Yt _ (nBi rfl).symm (nBi rfl).symm (nBi rfl).symm (nBi rfl).symm).trans hB.bB)))
      .exact(af (by decide)).trans ((af (by decide)).trans ((af (by decide)).trans ((Yt _ (by decide) (by decide) (by decide) (by decide)).trans hB.b8)))
      .rw[lz,aa7,Zj,ho];rfl
      .rw[aa5];exact hB.gd.of_eq ((af (by decide)).trans ((af (by decide)).trans ((af (by decide)).trans (Yt _ (by decide) (by decide) (by decide) (by decide)))))
      .exact ae0.of_eq ((af (by decide)).trans ((af (by decide)).trans (af (by decide))))
      exact aeZ.of_eq ((af (by decide)).trans ((af (by decide)).trans (af (by decide))))
     intro Yc Ya cd' cp' cf' q8 q11 hFE YB;refine hq Yc Ya cd' cp' cf' (by rw[q8];simp only[go_sem]) (by rw[q11];simp only[go_sem]) hFE fun id hn=>?_;have a:∀y,pV y->id≠y:=fun y hy e=>hn (.inl (e▸hy));exact(YB id hn).trans ((af (a _ rfl)).trans ((af (a _ rfl)).trans ((af (a _ rfl)).trans (Yt id (a _ rfl) (a _ rfl) (a _ rfl) (a _ rfl)))))
    |false=>
     rw[ho] at bF3;simp only[go_sem,bF3,h0,YN,Zn,h12,kF,w2,ag3,s90,jG pt];refine⟨?_,?_⟩
     .rcases hrP with rfl|rfl<;>rcases hrE with rfl|rfl<;>rcases Y0 with ⟨rfl,rfl⟩|⟨rfl,rfl⟩|⟨rfl,rfl⟩<;>rcases hr2 with ⟨rfl,rfl⟩|⟨rfl,rfl⟩|⟨rfl,rfl⟩<;>kernel_rfl
     refine ih (k+1) (bU ls x) (Zs.set x true) f' _ _ cd c2 c3 ?_ ?_ ?_ ?_ ?_ ?_ ?_ ?_ (by rw[abi];exact hSl) (qe ok hxn) Yz (by omega) (by omega) aaj ?_
     .simp only[go_sem,h0]
     .simp only[go_sem,h2]
     .simp only[go_sem,h8]
     .simp only[go_sem,h9]
     .simp only[go_sem,YN]
     .simp only[go_sem,Zn]
     .simp only[go_sem]
     .rw[htk];refine⟨?_,?_,?_,?_,?_,?_,?_⟩
      .exact(af (nSi rfl).symm).trans ((af (nSi rfl).symm).trans ((af (nSi rfl).symm).trans ((Yt _ (nSi rfl).symm (nSi rfl).symm (nSi rfl).symm (nSi rfl).symm).trans hB.bS)))
      .exact(af (nBi rfl).symm).trans ((af (nBi rfl).symm).trans ((af (nBi rfl).symm).trans ((Yt _ (nBi rfl).symm (nBi rfl).symm (nBi rfl).symm (nBi rfl).symm).trans hB.bB)))
      .exact(af (by decide)).trans ((af (by decide)).trans ((af (by decide)).trans ((Yt _ (by decide) (by decide) (by decide) (by decide)).trans hB.b8)))
      .rw[lz,aa7,Zj,ho];rfl
      .rw[aa5];exact hB.gd.of_eq ((af (by decide)).trans ((af (by decide)).trans ((af (by decide)).trans (Yt _ (by decide) (by decide) (by decide) (by decide)))))
      .exact ae0.of_eq ((af (by decide)).trans ((af (by decide)).trans (af (by decide))))
      exact aeZ.of_eq ((af (by decide)).trans ((af (by decide)).trans (af (by decide))))
     intro Yc Ya cd' cp' cf' q8 q11 hFE YB;refine hq Yc Ya cd' cp' cf' (by rw[q8];simp only[go_sem]) (by rw[q11];simp only[go_sem]) hFE fun id hn=>?_;have a:∀y,pV y->id≠y:=fun y hy e=>hn (.inl (e▸hy));exact(YB id hn).trans ((af (a _ rfl)).trans ((af (a _ rfl)).trans ((af (a _ rfl)).trans (Yt id (a _ rfl) (a _ rfl) (a _ rfl) (a _ rfl)))))
   have aes:((x:Int).tmod 2==1)=true:=by rw[eH,show x%2=1 by omega];rfl
   rw[if_neg YU] at ZB aaK;simp only[go_sem,ba,aes,h12,sy];refine Px (f:=112) (fun o h=>HA o (by simp only[aah];omega) (hnP _) h) Rq hc kr1 f1 fun Yg Zz Yp=>?_;simp only[go_sem,shI];refine Px (f:=113) (fun o h=>Oe o (by simp only[aah];omega) (hnF _) h) Rr (he.of_eq (Yp _ (by decide))) kr2 f2 fun Z4 he1 hb3=>?_;have hP:grown 5888640128 Dc 2 (we PP.reverse) (.one c) Z4:=by rw[we,List.map_reverse];exact Zz.of_eq (hb3 _ (by decide))
   have hE:grown 5888640129 3 1 (nP FF.reverse) (.one e) Z4:=by rw[nP,List.map_reverse];exact he1
   have hbA:∀i,i≠5888640128->i≠5888640129->Z4 i=X9 i:=fun i a b=>(hb3 i b).trans ((Yp i a).trans (hb i a b));have bFN:=(hbA 5888128448 (by decide) (by decide)).trans hB.bF;simp only[go_sem,bFN,Zn,kF];obtain⟨rP,hxP,hrP⟩:=hP.elems;refine xF (site:=5888896192) (id:=5888896192) (bytes:=16) (by rcases hrP with rfl|rfl<;>simp[kp,kr1]) (hB.gp.of_eq (hbA _ (by decide) (by decide))) hxP hP.iD (by simp only[aah,abp];omega) fun c2 al9 r1 u1 hc2 hb4 Y0=>?_
   have bF2:=(hb4 5888128448 (by decide) (by decide)).trans bFN;simp only[go_sem,bF2,Zn,kF];obtain⟨rE,hxE,hrE⟩:=(hE.of_eq (hb4 _ (by decide) (by decide))).elems;refine xF (site:=5888896448) (id:=5888896448) (bytes:=8) (by rcases hrE with rfl|rfl<;>simp[kf,kr2]) (hB.gf.of_eq ((hb4 _ (by decide) (by decide)).trans (hbA _ (by decide) (by decide)))) hxE hE.iD (by simp only[aah,abp];omega) fun c3 acs r2 u2 hc3 hb5 hr2=>?_
   have bF3:=(hb5 5888128448 (by decide) (by decide)).trans bF2;have Yt:∀i,i≠5888640128->i≠5888640129->i≠5888896192->i≠5888896448->acs i=X9 i:=fun i a b c d=>(hb5 i d d).trans ((hb4 i c c).trans (hbA i a b));have ae0:grown 5888896192 Dc 2 (we f'.places) (.one c2) acs:=by rw[ZB,rA];exact hc2.of_eq (hb5 _ (by decide) (by decide))
   have aeZ:grown 5888896448 3 1 (nP f'.YO) (.one c3) acs:=by rw[aaK,u7];exact hc3
   clear hc2 hc3;cases ho:f.outer with
   |true=>
    rw[ho] at bF3;simp only[go_sem,bF3,h0,Zn,h12,kF,s90,jG pt];refine⟨?_,?_⟩
    .rcases hrP with rfl|rfl<;>rcases hrE with rfl|rfl<;>rcases Y0 with ⟨rfl,rfl⟩|⟨rfl,rfl⟩|⟨rfl,rfl⟩<;>rcases hr2 with ⟨rfl,rfl⟩|⟨rfl,rfl⟩|⟨rfl,rfl⟩<;>kernel_rfl
    refine ih (k+1) (bU ls x) (Zs.set x true) f' _ _ cd c2 c3 ?_ ?_ ?_ ?_ ?_ ?_ ?_ ?_ (by rw[abi];exact hSl) (qe ok hxn) Yz (by omega) (by omega) aaj ?_
    .simp only[go_sem,h0]
    .simp only[go_sem,h2]
    .simp only[go_sem,h8]
    .simp only[go_sem,h9]
    .simp only[go_sem,YN]
    .simp only[go_sem,Zn]
    .simp only[go_sem]
    .rw[htk];refine⟨?_,?_,?_,?_,?_,?_,?_⟩
     .exact(af (nSi rfl).symm).trans ((af (nSi rfl).symm).trans ((af (nSi rfl).symm).trans ((Yt _ (nSi rfl).symm (nSi rfl).symm (nSi rfl).symm (nSi rfl).symm).trans hB.bS)))
     .exact(af (nBi rfl).symm).trans ((af (nBi rfl).symm).trans ((af (nBi rfl).symm).trans ((Yt _ (nBi rfl).symm (nBi rfl).symm (nBi rfl).symm (nBi rfl).symm).trans hB.bB)))
     .exact(af (by decide)).trans ((af (by decide)).trans ((af (by decide)).trans ((Yt _ (by decide) (by decide) (by decide) (by decide)).trans hB.b8)))
     .rw[lz,aa7,Zj,ho];rfl
     .rw[aa5];exact hB.gd.of_eq ((af (by decide)).trans ((af (by decide)).trans ((af (by decide)).trans (Yt _ (by decide) (by decide) (by decide) (by decide)))))
     .exact ae0.of_eq ((af (by decide)).trans ((af (by decide)).trans (af (by decide))))
     exact aeZ.of_eq ((af (by decide)).trans ((af (by decide)).trans (af (by decide))))
    intro Yc Ya cd' cp' cf' q8 q11 hFE YB;refine hq Yc Ya cd' cp' cf' (by rw[q8];simp only[go_sem]) (by rw[q11];simp only[go_sem]) hFE fun id hn=>?_;have a:∀y,pV y->id≠y:=fun y hy e=>hn (.inl (e▸hy));exact(YB id hn).trans ((af (a _ rfl)).trans ((af (a _ rfl)).trans ((af (a _ rfl)).trans (Yt id (a _ rfl) (a _ rfl) (a _ rfl) (a _ rfl)))))
   |false=>
    rw[ho] at bF3;simp only[go_sem,bF3,h0,YN,Zn,h12,kF,w2,ag3,s90,jG pt];refine⟨?_,?_⟩
    .rcases hrP with rfl|rfl<;>rcases hrE with rfl|rfl<;>rcases Y0 with ⟨rfl,rfl⟩|⟨rfl,rfl⟩|⟨rfl,rfl⟩<;>rcases hr2 with ⟨rfl,rfl⟩|⟨rfl,rfl⟩|⟨rfl,rfl⟩<;>kernel_rfl
    refine ih (k+1) (bU ls x) (Zs.set x true) f' _ _ cd c2 c3 ?_ ?_ ?_ ?_ ?_ ?_ ?_ ?_ (by rw[abi];exact hSl) (qe ok hxn) Yz (by omega) (by omega) aaj ?_
    .simp only[go_sem,h0]
    .simp only[go_sem,h2]
    .simp only[go_sem,h8]
    .simp only[go_sem,h9]
    .simp only[go_sem,YN]
    .simp only[go_sem,Zn]
    .simp only[go_sem]
    .rw[htk];refine⟨?_,?_,?_,?_,?_,?_,?_⟩
     .exact(af (nSi rfl).symm).trans ((af (nSi rfl).symm).trans ((af (nSi rfl).symm).trans ((Yt _ (nSi rfl).symm (nSi rfl).symm (nSi rfl).symm (nSi rfl).symm).trans hB.bS)))
     .exact(af (nBi rfl).symm).trans ((af (nBi rfl).symm).trans ((af (nBi rfl).symm).trans ((Yt _ (nBi rfl).symm (nBi rfl).symm (nBi rfl).symm (nBi rfl).symm).trans hB.bB)))
     .exact(af (by decide)).trans ((af (by decide)).trans ((af (by decide)).trans ((Yt _ (by decide) (by decide) (by decide) (by decide)).trans hB.b8)))
     .rw[lz,aa7,Zj,ho];rfl
     .rw[aa5];exact hB.gd.of_eq ((af (by decide)).trans ((af (by decide)).trans ((af (by decide)).trans (Yt _ (by decide) (by decide) (by decide) (by decide)))))
     .exact ae0.of_eq ((af (by decide)).trans ((af (by decide)).trans (af (by decide))))
     exact aeZ.of_eq ((af (by decide)).trans ((af (by decide)).trans (af (by decide))))
    intro Yc Ya cd' cp' cf' q8 q11 hFE YB;refine hq Yc Ya cd' cp' cf' (by rw[q8];simp only[go_sem]) (by rw[q11];simp only[go_sem]) hFE fun id hn=>?_;have a:∀y,pV y->id≠y:=fun y hy e=>hn (.inl (e▸hy));exact(YB id hn).trans ((af (a _ rfl)).trans ((af (a _ rfl)).trans ((af (a _ rfl)).trans (Yt id (a _ rfl) (a _ rfl) (a _ rfl) (a _ rfl)))))
structure cD (F:Nat) (ls:List Let):Prop where
 ok:dT F ls
 len:ls.length<=400
 cr:ao Let.aw ls<=200
 fing:F<=40
 ne:ls≠[]
 first:∃l,ls[0]?=some l/\l.aA=true
 even:ao Let.aA ls%2=0
 bad:∀l∈ls,cF F l=false
 chk:aO F ls=0
 nw:bb ls=ao Let.aA ls+ao Let.aw ls/2+2
theorem rS{f:Int}(h:aO f ls=0)(Yk:ls≠[]):∃F:Nat,f=(F:Int)/\cD F ls:=by
 have h0:=h;unfold aO at h;by_cases h1:400<ls.length\/200<ao Let.aw ls
 .rw[if_pos h1] at h;cases h
 rw[if_neg h1] at h;by_cases h2:f<0\/40<f
 .rw[if_pos h2] at h;cases h
 rw[if_neg h2,if_neg Yk] at h;cases hv:dS f ls with
 |false=>rw[hv] at h;simp at h
 |true=>
  obtain⟨F,rfl⟩:=abs (show 0<=f by omega);refine⟨F,rfl,?_⟩;unfold dS at hv;simp only[aaf] at hv;obtain⟨⟨⟨v1,v2⟩,v3⟩,v4⟩:=hv;obtain⟨Yo,hrk,YV⟩:=jZ.1 v3;have hbl:∀l∈ls,cF F l=false:=fun l hl=>by simpa using ac4.1 Yo l hl
  have hg:jc F ls:=fun l hl hp=>((cJ hp).1 (hbl l hl)).1.1.1;obtain⟨g1,g2⟩:=(jB hg).1 hrk;obtain⟨l0,hl0⟩:=ai (aaQ.2 Yk);rw[hl0] at v1;exact⟨⟨by omega,⟨g1,g2⟩,YV,fun l hl=>gR (hbl l hl)⟩,by omega,by omega,by omega,Yk,⟨l0,hl0,v1⟩,by simpa using v2,hbl,h0,by simpa using v4⟩
def PJ(F:Nat)(ls:List Let)(idS gS:Nat)(x:Nat)(Zs:List Bool)(X9:aE)(v:V)(Ya:aE):Prop:=
 ∃f cd cp cf,f=((cH (bU ls) (nD ls+1) x Zs).1).foldl (Fc.add F ls) (Fc.new ls x)/\v=.agg [.p (.bool f.Ym),cd,cp,cf,.p (.bool f.outer)]/\Ya idS=(gS,some (.arr 4 1 (bP ((cH (bU ls) (nD ls+1) x Zs).2.take (2*ls.length)))))/\
  grown 5888512256 3 1 (nP f.Yj) (.one cd) Ya/\grown 5888896192 Dc 2 (we f.places) (.one cp) Ya/\grown 5888896448 3 1 (nP f.YO) (.one cf) Ya/\Kept (fun id=>pV id\/id=idS) X9 Ya
theorem VS{al:Al}{F:Nat}{ls:List Let}(ok:dT F ls)(hF:F<=1000)(okf:∀id,pV id->al.ok id=true){idS gS idB gB x:Nat}(oS:al.ok idS=true)(oB:al.ok idB=true)(nS:¬pV idS)(nB:¬pV idB)(nSB:idS≠idB)(f1:al.fs.contains 112=true)(f2:al.fs.contains 113=true){Zs:List Bool}{X9:aE}
  (hx:x<2*ls.length) (hSl:Zs.length=nD ls) (YL:Ax (bU ls) (nD ls) Zs) (hs:Zs.getD x true=false) (bS:X9 idS=(gS,some (.arr 4 1 (bP (Zs.take (2*ls.length)))))) (bB:X9 idB=(gB,some (.arr 4 1 (bP (DU ls))))):
  ∃v Ya,vN S 92 [.one (.p (xC F ls)),vi x,.one (.hsl idS gS 1 0 (2*ls.length)),.one (.hsl idB gB 1 0 ls.length)] al X9 v Ya/\PJ F ls idS gS x Zs X9 v Ya:=by
 have hl:=ok.hl;have ZP:(aa ls).length<=ls.length:=fv ls ls.length;have Zx:nD ls<=4000000:=by unfold nD;omega
 have k0:al.ok 5888000000=true:=okf _ rfl;have kF:al.ok 5888128448=true:=okf _ rfl;have wq:=wrap_small (n:=x/2) (by omega);have hxl:x/2<ls.length:=by omega
 have aoX:=km (Tt hxl);have nSi:∀ {a:Nat},pV a->a≠idS:=fun h e=>nS (e▸h);have nBi:∀ {a:Nat},pV a->a≠idB:=fun h e=>nB (e▸h);have nB0:¬(idB=5888000000):=fun e=>nBi rfl e.symm;have hul:=k9 Zs;refine iS c92 (aaU rfl) ?_;simp only[go_sem,i92,bB,nB0,k0,kF,oB,ba,cY,wq,hxl,aoX];refine⟨aH,?_⟩;refine VT ok hF okf (idS:=idS) (gS:=gS) (idB:=idB) (gB:=gB) (g8:=(X9 5888000000).1+1) (gF:=(X9 5888128448).1+1) (d:=x) oS nS nB nSB f1 f2 hx (nD ls+1) 0 x Zs (Fc.new ls x) _ _ (.p .nils) (.p .nils) (.p .nils) ?_ ?_ ?_ ?_ ?_ ?_ ?_ ?_ hSl (by unfold nD;omega) (Inv.start YL hs) (by omega) (by omega) ⟨aad _,aae _,aae _⟩ ?_
 .simp only[go_sem]
 .simp only[go_sem]
 .simp only[go_sem]
 .simp only[go_sem]
 .simp only[go_sem]
 .simp only[go_sem]
 .simp only[go_sem]
 .refine⟨?_,?_,?_,?_,grown.nil,grown.nil,grown.nil⟩
  .simp only[af (nSi (a:=5888000000) rfl).symm,af (nSi (a:=5888128448) rfl).symm,bS]
  .simp only[af (nBi (a:=5888000000) rfl).symm,af (nBi (a:=5888128448) rfl).symm,bB]
  .simp only[go_sem]
  simp only[go_sem,Fc.new]
 intro Yc Ya cd' cp' cf' q8 q11 hFE YB;simp only[go_sem] at q8 q11;have h8:=hFE.b8;have hf:=hFE.bF;simp only[go_sem,i92_r2,q8,q11,h8,hf,k0,kF];refine⟨_,cd',cp',cf',rfl,rfl,?_,?_,?_,?_,fun id hn=>?_⟩
 .exact(af (nSi rfl).symm).trans hFE.bS
 .exact hFE.gd.of_eq (af (by decide))
 .exact hFE.gp.of_eq (af (by decide))
 .exact hFE.gf.of_eq (af (by decide))
 have a:∀y,pV y->id≠y:=fun y hy e=>hn (.inl (e▸hy));refine(af (a _ rfl)).trans ((YB id hn).trans ?_);simp only[af (a 5888000000 rfl),af (a 5888128448 rfl)]
theorem aS{s1 t1 z1:Nat}{es:List (List PV)}{c:C}{x:PV}{X9:aE}(h:grown s1 t1 z1 es (.one c) X9):iE X9 (.tup [.one c,.one (.p x)])=some (.tup [.one (aD t1 z1 es),.one (.p x)]):=by obtain⟨c',o,hc,h2,h3⟩:=h.jg;cases hc;rcases h3 with rfl|rfl<;>simp[iE,lW,jH,fE,gK,h2,(show Go.Abs.jg X9 (.p x)=some (.p x,[],[]) from rfl),apart,ni,ik,oq]
theorem uZ{X9:aE}{id g g0 z o l ty sz:Nat}{es:List (List PV)}(h:X9 id=(g0,some (.arr ty sz es))):eQ X9 (.one (.hsl id g z o l))=[id]:=(lc h:eJ X9 6 (.hsl id g z o l)=[id])
theorem Rv:(S.sites 92).contains 92=true:=by kernel_rfl
theorem Ru:(S.sites 92).contains 112=true:=by kernel_rfl
theorem Rs:(S.sites 92).contains 113=true:=by kernel_rfl
theorem Ez{S:List Bool}{n k:Nat}{b:Bool}(hk:k<n)(hn:n<=S.length)(h:S.getD k true=b):(S.take n)[k]?=some b:=by rw[aa3,if_pos hk];rw[aal] at h;obtain⟨c,hc⟩:=ai (show k<S.length by omega);rw[hc] at h ⊢;exact congrArg some h
theorem S1(g:cD F ls):bz S 72 [de F ls] (.tup [.one (aD AX 5 (zE (aT F ls))),.one (.p (.int .i64 0))]):=by
 have ok:=g.ok;have hl:=ok.hl;have hF:F<=1000:=by have:=g.fing;omega
 have ZP:(aa ls).length<=ls.length:=fv ls ls.length;have hlen:=g.len;have Zx:nD ls<=4000000:=by unfold nD;omega
 have h2n:2*ls.length<=nD ls:=by unfold nD;omega
 have pr:=CW F ls hl;rw[lK g.chk,if_neg g.ne,aba] at pr;have pb:=Ts ok;have hm:=maps ok;have m2:=dr (a:=ls.length) (by omega);have YE:2*ls.length<=140737488355328:=by omega
 have aax:List.replicate (2*ls.length) [PV.bool false]=bP ((aK (bU ls) (nD ls) 0).2.take (2*ls.length)):=by show _=bP ((List.replicate (nD ls) false).take (2*ls.length));rw[List.take_replicate,ab0 h2n];simp
 have hLB:∀X9:aE,land X9 [] 4608384064 ((RV.one (.own 4 1 (bP (DU ls)))).bZ (S.lone 4608384064))=some (.one (.hsl 4608384064 ((X9 4608384064).1+1) 1 0 ls.length),[(4608384064,((X9 4608384064).1+1,some (.arr 4 1 (bP (DU ls)))))]):=by intro X9;rw[show S.lone 4608384064=false by kernel_rfl];show some (V.one (.hsl 4608384064 ((X9 4608384064).1+1) 1 0 (bP (DU ls)).length),_)=_;rw[show(bP (DU ls)).length=ls.length by simp[tz]];rfl
 have Za:S.shared 92=true:=by kernel_rfl
 refine aP c72 ?_;simp only[go_sem,i72,s19,au pr aU,s91,au pb (hLB _),m2,YE,aax];refine bm (fun k env X9=>env 4=.one (.p (xC F ls))/\env 7=.one (.hsl 4608320448 1 1 0 (2*ls.length))/\env 8=.one (.hsl 4608384064 1 1 0 ls.length)/\env 29=vi ((2*ls.length:Nat):Int)/\env 30=vi k/\
   X9 4608320448=(1,some (.arr 4 1 (bP ((aK (bU ls) (nD ls) k).2.take (2*ls.length)))))/\X9 4608384064=(1,some (.arr 4 1 (bP (DU ls))))/\
   ∃vo,env 6=.one vo/\grown 4608704448 AX 5 (zE ((aK (bU ls) (nD ls) k).1.map (fH F ls))) (.one vo) X9) 0 (2*ls.length) (aae _) ?_ ?_
 .simp only[go_sem];first|exact⟨rfl,rfl,rfl,_,rfl,.inl ⟨rfl,rfl⟩⟩|exact⟨rfl,rfl,_,rfl,.inl ⟨rfl,rfl⟩⟩|exact⟨rfl,_,rfl,.inl ⟨rfl,rfl⟩⟩|exact⟨rfl,rfl,rfl,rfl,_,rfl,.inl ⟨rfl,rfl⟩⟩
 rintro k env X9 hk ⟨h4,h7,h8,h29,h30,bS,bB,vo,h6,go⟩
 by_cases Ye:k<2*ls.length
 .have Yf:((k:Int)<((2*ls.length:Nat):Int)):=by omega
  have w1:=ah (n:=k) (by omega);obtain⟨YL,_⟩:=jN hm k (by omega);have aeG:=iL (bU ls) (nD ls) k;have aaH:=jU (bU ls) (nD ls) k;have Yz:=dL (bU ls) (nD ls) k;generalize hw:aK (bU ls) (nD ls) k=st at*;obtain⟨o,Zs⟩:=st;simp only at YL aeG aaH bS go;unfold eV at Yz;cases hs:Zs.getD k true with
  |true=>simp only[hs,if_true] at Yz;have hb:=km (Ez Ye (by omega) hs);simp only[go_sem,i72_l1,h4,h6,h7,h8,h29,h30,bS,bB,Ye,Yf,hb,w1,Yz];exact⟨vo,rfl,go⟩
  |false=>
   simp only[hs,aaq,if_false,aeG] at Yz;have hb:=km (Ez Ye (by omega) hs);obtain⟨t,ht⟩:=xT (bU ls) (k:=nD ls) hs;have hfw:((cH (bU ls) (nD ls+1) k Zs).1).foldl (Fc.add F ls) (Fc.new ls k)=fH F ls (cH (bU ls) (nD ls+1) k Zs).1:=by unfold fH;rw[ht];rfl
   have Ze:=Gf (F:=F) (t:=t) Ye;rw[<- ht] at Ze;simp only[go_sem,i72_l1,h4,h6,h7,h8,h29,h30,bS,bB,Ye,Yf,hb,Za];have akS:eQ X9 (.one (.hsl 4608320448 1 1 0 (2*ls.length)))=[4608320448]:=uZ bS;have aeq:eQ X9 (.one (.hsl 4608384064 1 1 0 ls.length))=[4608384064]:=uZ bB;refine jF (P:=PJ F ls 4608320448 1 k Zs X9) gb (VS ok hF (fun id h=>qW (by rw[h];exact Rv)) (ie ?_) (ie ?_) (by decide) (by decide) (by decide) ?_ ?_ Ye aeG YL hs bS bB) ?_
   .simp only[aar,abl,akS,aeq];simp
   .simp only[aar,abl,akS,aeq];simp
   .exact Ru
   .exact Rs
   rintro v Yi ⟨f,cd,cp,cf,hf,rfl,bS1,gd,gp,gf,YB⟩
   rw[hfw] at hf;rw[<- hf] at Ze;have bB1:=(YB 4608384064 (by decide)).trans bB;have go1:=go.of_eq (YB 4608704448 (by decide));have Zj:zE (o.map (fH F ls))++[f.ps]=zE ((aK (bU ls) (nD ls) (k+1)).1.map (fH F ls)):=by rw[Yz,hf];simp
   have hS2:(aK (bU ls) (nD ls) (k+1)).2=(cH (bU ls) (nD ls+1) k Zs).2:=by rw[Yz]
   have aok:(zE (o.map (fH F ls))).length<=k:=by simpa using aaH
   generalize zE (o.map (fH F ls))=outs at go1 Zj aok;have gd0:=gd;rcases gd with ⟨e,_⟩|⟨_,gg,e,ZA⟩
   .simp at e;exact absurd e Ze
   cases e;simp only[go_sem];rw[aah] at gd0;obtain⟨fr,hx,hfa,hfi⟩:=IF (X9:=ij Yi 4608704384 ((Yi 4608704384).1+1,some (.YP AX 5 [[.p (.bool f.Ym),.hsl 5888512256 gg 1 0 f.Yj.length,cp,cf,.p (.bool f.outer)]]))) (s:=4608704384) lz (gd0.of_eq (af (by decide))) (gp.of_eq (af (by decide))) (gf.of_eq (af (by decide)));have nf:∀i,i≠5888512256->i≠5888896192->i≠5888896448->i∉fr:=fun i a b c h=>by
    rcases hfi i h with h|h|h
    .exact a h
    .exact b h
    exact c h
   refine SY (site:=4608704448) (id:=4608704448) (bytes:=88) (go1.of_eq (af (by decide))) hx hfa (nf _ (by decide) (by decide) (by decide)) (nf _ (by decide) (by decide) (by decide)) (.inl rfl) (by simp only[aas,aaA];omega) fun c Yg hc Yp=>?_;have BS':=(Yp 4608320448 (by decide) (by decide) (nf _ (by decide) (by decide) (by decide))).trans ((af (by decide)).trans bS1);have BB':=(Yp 4608384064 (by decide) (by decide) (nf _ (by decide) (by decide) (by decide))).trans ((af (by decide)).trans bB1);simp only[go_sem,h4,h6,h7,h8,h29,h30,BS',BB',w1,Ye,hS2];refine⟨c,rfl,?_⟩;rw[<- Zj];exact hc
 have:k=2*ls.length:=by omega
 subst this;simp only[go_sem,i72_l1,i72_r2,h6,h29,h30,aW];have:=sK hm (nD ls) h2n (aad _);unfold aT bY;rw[this];exact aS go
structure Pc where
 l:Let
 d:Bool
def Pc.ps(p:Pc):List PV:=[.int .i64 p.l.kind,.int .i64 p.l.gate,.int .i64 p.l.Yb,.int .i64 p.l.id,.int .i64 p.l.sign,.bool p.l.over,.bool p.d]
abbrev d5(o:List Pc):List (List PV):=o.map Pc.ps
abbrev gE:Nat:=129
def fG:Let:=⟨0,0,0,0,0,false⟩
def pieces(ls:List Let):List Pc:=(List.range ls.length).map fun i=>⟨ls.getD i fG,rW ls i⟩
theorem aB(ls:List Let):(pieces ls).length=ls.length:=by simp[pieces]
theorem dw{i:Nat}{l:Let}(h:ls[i]?=some l):(pieces ls)[i]?=some ⟨l,rW ls i⟩:=by have:=(aac.1 h).1;simp only[pieces,aaz,abw this,abf,aal,h,aaS]
theorem cN{o:List Pc}{k:Nat}{p:Pc}(h:o[k]?=some p):(d5 o)[k]?=some p.ps:=by simp[h]
def fm(L:List Nat)(ds:List Nat)(v:Nat):List Nat:=ds.foldl (fun L d=>L.set d v) L
def iW:List Fc->Nat->List Nat->List Nat
 |[],_,L=>L
 |f::r,j,L=>iW r (j+1) (fm L f.Yj j)
def dX(F:Nat)(ls:List Let):List Nat:=iW (aT F ls) 0 (List.replicate (2*ls.length) 0)
theorem lH(L ds:List Nat)(v:Nat):(fm L ds v).length=L.length:=by
 induction ds generalizing L with
 |nil=>rfl
 |cons d ds ih=>show(fm (L.set d v) ds v).length=_;rw[ih];simp
theorem Hy(L a b:List Nat)(v:Nat):fm L (a++b) v=fm (fm L a v) b v:=by simp[fm]
theorem rF(fs:List Fc):∀(j:Nat) (L:List Nat),(iW fs j L).length=L.length:=by
 induction fs with
 |nil=>intro j L;rfl
 |cons f r ih=>intro j L;show(iW r (j+1) _).length=_;rw[ih,lH]
theorem Ma(a:List Fc)(f:Fc):∀(j:Nat) (L:List Nat),iW (a++[f]) j L=fm (iW a j L) f.Yj (j+a.length):=by
 induction a with
 |nil=>intro j L;rfl
 |cons g r ih=>intro j L;show iW (r++[f]) (j+1) _=_;rw[ih];simp[iW];congr 1;omega
theorem Ee(F:Nat)(ls:List Let):∀(w:List Nat) (f:Fc),(w.foldl (Fc.add F ls) f).Yj=f.Yj++w.filter (fun x=>decide (x<2*ls.length)):=by
 intro w
 induction w with
 |nil=>intro f;simp
 |cons x w ih=>
  intro f;rw[ab3,ih];unfold Fc.add;by_cases h:x<2*ls.length
  .rw[if_pos h,List.filter_cons_of_pos (by simpa using h)];simp
  rw[if_neg h,List.filter_cons_of_neg (by simpa using h)]
theorem j9(F:Nat)(ls:List Let)(w:List Nat):(fH F ls w).Yj=w.filter (fun x=>decide (x<2*ls.length)):=by unfold fH;rw[Ee];rfl
theorem uC{f:Fc}(h:f∈aT F ls):∀d∈f.Yj,d<2*ls.length:=by
 obtain⟨w,_,rfl⟩:=aan.1 h;intro d hd;rw[j9] at hd
 simpa using (abD.1 hd).2
theorem wA(ok:dT F ls){f:Fc}(h:f∈aT F ls):f.Yj.length<=nD ls:=by obtain⟨w,hw,rfl⟩:=aan.1 h;rw[j9];exact abc (List.length_filter_le _ _) (dY ok w hw).2.1
theorem zH(F:Nat)(ls:List Let):(aT F ls).length=bb ls:=by simp[aT,bb]
theorem Iz{o:List Fc}{k:Nat}{p:Fc}(h:o[k]?=some p):(zE o)[k]?=some p.ps:=by simp[h]
abbrev fp(F:Nat)(ls:List Let):PV:=.box [.int .i64 F,.sl (d5 (pieces ls)),.sl (zE (aT F ls)),.sl (nP (dX F ls)),.int .i64 (ao Let.aA ls:Nat),.int .i64 ((ao Let.aw ls/2:Nat):Int),.sl (nP (counts ls F))]
abbrev Qp(F:Nat)(ls:List Let)(pc cf:C):List C:=[.p (.int .i64 F),pc,cf,.hsl 2944256448 1 1 0 (2*ls.length),.p (.int .i64 (ao Let.aA ls:Nat)),.p (.int .i64 ((ao Let.aw ls/2:Nat):Int)),.hsl 2944256960 1 1 0 (F+1)]
theorem WS{F:Nat}{ls:List Let}(g:cD F ls){pc cf:C}{env:Env}{X9:aE}{Q:dO}(h4:env 4=.one cf)(h6:env 6=.one (.Yh 2944257088 1 0))
  (bB:X9 2944257088=(1,some (.var (Qp F ls pc cf)))) (bL:X9 2944256448=(1,some (.arr 3 1 (nP (List.replicate (2*ls.length) 0))))) (bC:X9 2944256960=(1,some (.arr 3 1 (nP (counts ls F))))) (gp:grown 2944896448 gE 7 (d5 (pieces ls)) (.one pc) X9) (gf:grown 2944064064 AX 5 (zE (aT F ls)) (.one cf) X9)
  (hq:∀Yc Ya,Yc 6=env 6->Ya 2944257088=(1,some (.var (Qp F ls pc cf)))->Ya 2944256448=(1,some (.arr 3 1 (nP (dX F ls))))->Ya 2944256960=(1,some (.arr 3 1 (nP (counts ls F))))->grown 2944896448 gE 7 (d5 (pieces ls)) (.one pc) Ya->grown 2944064064 AX 5 (zE (aT F ls)) (.one cf) Ya->W S .all i46_r5 Q Yc Ya):
  W S .all i46_r6 Q env X9:=by
 have ok:=g.ok;have hl:=ok.hl;have hlen:=g.len;have ZP:(aa ls).length<=ls.length:=fv ls ls.length;have Zx:nD ls<=4000000:=by unfold nD;omega
 have hfl:(aT F ls).length<=nD ls:=by rw[aT,aah];exact jU (bU ls) (nD ls) _
 obtain⟨g0,aje⟩:∃gg,cf=.hsl 2944064064 gg 5 0 (aT F ls).length:=by
  rcases gf with ⟨e,_⟩|⟨_,gg,e,hb⟩
  .have h1:(aT F ls).length=0:=by simpa using congrArg List.length e
   rw[zH,g.nw] at h1;omega
  cases e;exact⟨gg,by rw[aah]⟩
 have h4':=h4;rw[aje] at h4';simp only[go_sem,i46_r6,h4'];refine bm (fun k Yc Ya=>Yc 6=env 6/\Yc 78=.one cf/\Yc 79=vi (aT F ls).length/\Yc 80=vi k/\Ya 2944257088=(1,some (.var (Qp F ls pc cf)))/\Ya 2944256448=(1,some (.arr 3 1 (nP (iW ((aT F ls).take k) 0 (List.replicate (2*ls.length) 0)))))/\Ya 2944256960=(1,some (.arr 3 1 (nP (counts ls F))))/\
   grown 2944896448 gE 7 (d5 (pieces ls)) (.one pc) Ya/\grown 2944064064 AX 5 (zE (aT F ls)) (.one cf) Ya) 0 (aT F ls).length (aae _) ?_ ?_
 .simp only[go_sem,bB,bL,bC,iW,aje];exact⟨rfl,gp,by first|exact gf|(rw[<- aje];exact gf)⟩
 rintro k Yc Ya hk ⟨q6,h78,h79,h80,bB,bL,bC,gp,gf⟩
 rw[h6] at q6;by_cases Ye:k<(aT F ls).length
 .have Yf:((k:Int)<((aT F ls).length:Int)):=by omega
  obtain⟨f,hf⟩:=ai Ye;have hfp:=Iz hf;have aaa:=aab hf;have hdl:=wA ok aaa;have hdd:=uC aaa;have w1:=ah (n:=k) (by omega);have htk:iW ((aT F ls).take (k+1)) 0 (List.replicate (2*ls.length) 0)=fm (iW ((aT F ls).take k) 0 (List.replicate (2*ls.length) 0)) f.Yj k:=by rw[abn,hf];show iW (_++[f]) 0 _=_;rw[Ma,aay,ab0 (by omega),aa0]
  have hLl:(iW ((aT F ls).take k) 0 (List.replicate (2*ls.length) 0)).length=2*ls.length:=by rw[rF,List.length_replicate]
  generalize iW ((aT F ls).take k) 0 (List.replicate (2*ls.length) 0)=L at bL htk hLl;obtain⟨gg,hcf,bf⟩:∃gg,cf=.hsl 2944064064 gg 5 0 (zE (aT F ls)).length/\Ya 2944064064=(gg,some (.arr AX 5 (zE (aT F ls)))):=by
   rcases gf with ⟨e,_⟩|⟨_,gg,e,hb⟩
   .have:(aT F ls).length=0:=by simpa using congrArg List.length e
    omega
   cases e;exact⟨gg,rfl,hb⟩
  rw[aah] at hcf;have ajj:=h78;rw[hcf] at ajj;simp only[go_sem,i46_l4,ajj,h79,h80,bf,hfp,Fc.ps,Ye,Yf];refine bm (fun j Yn Yg=>Yn 6=.one (.Yh 2944257088 1 0)/\Yn 11=vi k/\Yn 78=.one cf/\Yn 79=vi (aT F ls).length/\Yn 80=vi k/\Yn 86=.one (.p (.sl (nP f.Yj)))/\Yn 87=vi f.Yj.length/\Yn 88=vi j/\
   Yg 2944257088=(1,some (.var (Qp F ls pc cf)))/\Yg 2944256448=(1,some (.arr 3 1 (nP (fm L (f.Yj.take j) k))))/\Yg 2944256960=(1,some (.arr 3 1 (nP (counts ls F))))/\grown 2944896448 gE 7 (d5 (pieces ls)) (.one pc) Yg/\grown 2944064064 AX 5 (zE (aT F ls)) (.one cf) Yg) 0 f.Yj.length (aae _) ?_ ?_
  .simp only[go_sem,q6,hcf,ajj,h79,h80,bB,bL,bC,fm,List.foldl_nil];refine⟨rfl,gp.of_eq (af (by decide)),?_⟩;first|exact gf.of_eq (af (by decide))|(rw[<- hcf];exact gf.of_eq (af (by decide)))
  rintro j Yn Yg hj ⟨p6,p11,p78,p79,p80,p86,p87,p88,cB,cL,cC,cp,cg⟩
  by_cases hlj:j<f.Yj.length
  .have agT:((j:Int)<(f.Yj.length:Int)):=by omega
   obtain⟨d,hd⟩:=ai hlj;have hdp:=dQ hd;have hdb:=hdd d (aab hd);have w2:=ah (n:=j) (by omega);have YA:(fm L (f.Yj.take j) k).set d k=fm L (f.Yj.take (j+1)) k:=by rw[abn,hd,Hy];rfl
   have Zd:=u6 (fm L (f.Yj.take j) k) d k;rw[YA] at Zd;obtain⟨v0,hv0⟩:=ai (ls:=fm L (f.Yj.take j) k) (k:=d) (by rw[lH,hLl];exact hdb);have hv:=dQ hv0;simp only[go_sem,i46_l2,p6,p11,p78,p79,p80,p86,p87,p88,cB,cL,cC,hlj,agT,hdp,hdb,hv,Zd,w2];exact⟨cp.of_eq (af (by decide)),cg.of_eq (af (by decide))⟩
  have:j=f.Yj.length:=by omega
  subst this;rw[aaV,<- htk] at cL;simp only[go_sem,i46_l2,i46_r3,p6,p78,p79,p80,p87,p88,cB,cL,cC,aW,w1,Ye,h6];exact⟨cp,cg⟩
 have:k=(aT F ls).length:=by omega
 subst this;rw[aaV] at bL;simp only[go_sem,i46_l4,h79,h80,aW];exact hq _ _ (by simp only[go_sem,q6,h6]) bB bL bC gp gf
theorem Vu(g:cD F ls):bz S 46 [de F ls] (uU (fp F ls) (.int .i64 0)):=by
 have ok:=g.ok;have hl:=ok.hl;have hlen:=g.len;have Z3:=g.fing;have pf:=S1 g;have pps:=yN F ls hl;have pcs:=wH F ls hl;have lo:S.lone 2944064064=false:=by kernel_rfl
 have m2:=dr (a:=ls.length) (by omega);have wF:=ah (n:=F) (by omega);have r1:2*ls.length*8<=140737488355328:=by omega
 have r2:(F+1)*8<=140737488355328:=by omega
 have e1:List.replicate (2*ls.length) [PV.int .i64 0]=nP (List.replicate (2*ls.length) 0):=by simp
 have e2:List.replicate (F+1) [PV.int .i64 0]=nP (ff ls F 0):=by rw[o9];simp
 refine aP c46 ?_;simp only[go_sem,i46,s72];refine PA pf lo fun cf YZ hcf Zq=>?_;have b00:=Zq 2944000000 (by decide);simp only[go_sem] at b00;simp only[go_sem,b00,m2,wF,r1,r2,s73,s74,dU pps,dU pcs,e1,e2];refine⟨aH,?_⟩;have hz:∀j,j≠2944064064->j≠2944000000->YZ j=(0,none):=fun j a b=>(Zq j a).trans (af b);have z1:=hz 2944256448 (by decide) (by decide);have z2:=hz 2944256960 (by decide) (by decide);have z3:=hz 2944257088 (by decide) (by decide);refine bm (fun k env X9=>env 4=.one cf/\env 6=.one (.Yh 2944257088 1 0)/\env 7=vb (dn ls k)/\env 42=.one (.p (kL ls))/\env 43=vi ls.length/\env 44=vi k/\
   X9 2944256448=(1,some (.arr 3 1 (nP (List.replicate (2*ls.length) 0))))/\X9 2944256960=(1,some (.arr 3 1 (nP (ff ls F k))))/\
   ∃pc,X9 2944257088=(1,some (.var (Qp F ls pc cf)))/\grown 2944896448 gE 7 (d5 ((pieces ls).take k)) (.one pc) X9/\grown 2944064064 AX 5 (zE (aT F ls)) (.one cf) X9) 0 ls.length (aae _) ?_ ?_
 .simp only[go_sem,z1,z2,z3];refine⟨rfl,rfl,.p .nils,rfl,.inl ⟨rfl,rfl⟩,hcf.of_eq ?_⟩;simp only[go_sem]
 rintro k env X9 hk ⟨h4,h6,h7,h42,h43,h44,bL,bC,pc,bB,gp,gf⟩
 by_cases Ye:k<ls.length
 .obtain⟨l,Yw⟩:=ai Ye;have hi:=ef Yw;have Yf:((k:Int)<(ls.length:Int)):=by omega
  have w1:=ah (n:=k) (by omega);have hpa:=dw Yw;cases hp:(l.kind==1) with
  |false=>
   have ZJ:l.aA=false:=hp;have hdp:rW ls k=false:=by simp[rW,Yw,ZJ]
   rw[hdp] at hpa;have hd:=rV Yw ZJ;have hcm:=uH (F:=F) Yw ZJ;have htk:d5 ((pieces ls).take (k+1))=d5 ((pieces ls).take k)++[(Pc.mk l false).ps]:=by rw[abn,hpa];simp
   simp only[go_sem,i46_l1,h6,h42,h43,h44,hi,Let.ps,Yf,hp,bB];refine vu (site:=2944896448) (id:=2944896448) (bytes:=56) (xs:=[(Pc.mk l false).ps]) (rd:=[2944896384]) (gp.of_eq (by simp only[ae,Nat.reduceEqDiff,if_false])) (by simp[cM,ae,Pc.ps]) (.inl rfl) (by simp only[aah,aas,aaA,aay,aB];omega) fun c Yi r u hc hb hr=>?_;have hfr:∀i,i≠2944896448->i≠2944896384->i≠2944576128->i≠2944512128->i≠2944256960->Yi i=X9 i:=fun i a b c d e=>(hb i a a).trans (by simp only[ae,if_neg b,if_neg c,if_neg d])
   have hcn:=(hb 2944256960 (by decide) (by decide));simp only[ae,Nat.reduceEqDiff,if_false,bC] at hcn;have bB1:=(hfr 2944257088 (by decide) (by decide) (by decide) (by decide) (by decide)).trans bB;have bL1:=(hfr 2944256448 (by decide) (by decide) (by decide) (by decide) (by decide)).trans bL;simp only[go_sem,h4,h6,h7,h42,h43,h44,bB1,bL1,hcn,w1,hd,hcm,Ye];refine⟨?_,?_⟩
   .rcases hr with ⟨rfl,rfl⟩|⟨rfl,rfl⟩|⟨rfl,rfl⟩<;>kernel_rfl
   refine⟨c,rfl,?_,?_⟩
   .rw[htk];exact hc.of_eq (af (by decide))
   exact gf.of_eq ((af (by decide)).trans (hfr _ (by decide) (by decide) (by decide) (by decide) (by decide)))
  |true=>
   have ZJ:l.aA=true:=hp;have hdp:rW ls k=dn ls k:=by simp[rW,Yw,ZJ]
   rw[hdp] at hpa;have hd:=qM Yw ZJ;have htk:d5 ((pieces ls).take (k+1))=d5 ((pieces ls).take k)++[(Pc.mk l (dn ls k)).ps]:=by rw[abn,hpa];simp
   have hgd:=ok.ax.d9 l (aab Yw) ZJ;obtain⟨G,hG⟩:=abs hgd.g0;have hGF:G<=F:=by have:=hgd.g1;omega
   have abK:G<F+1:=by omega
   have hca:=dQ (zU (ls:=ls) (k:=k) hGF);have YL:cg (ls.take k) G<=k:=eD _ _ _;have w2:=ah (n:=cg (ls.take k) G) (by omega);have s1:=u6 (ff ls F k) G (cg (ls.take k) G+1);rw[<- wJ Yw ZJ hG] at s1;simp only[go_sem,i46_l1,h6,h7,h42,h43,h44,hi,Let.ps,Yf,hp,hG,bB,bC,hca,abK,w2,s1];refine⟨aH,?_⟩;refine vu (site:=2944896448) (id:=2944896448) (bytes:=56) (xs:=[(Pc.mk l (dn ls k)).ps]) (rd:=[2944896384]) (gp.of_eq (by simp only[ae,Nat.reduceEqDiff,if_false])) (by simp[cM,ae,Pc.ps,hG]) (.inl rfl) (by simp only[aah,aas,aaA,aay,aB];omega) fun c Yi r u hc hb hr=>?_
   have hfr:∀i,i≠2944896448->i≠2944896384->i≠2944576128->i≠2944512128->i≠2944256960->Yi i=X9 i:=fun i a b c d e=>(hb i a a).trans (by simp only[ae,if_neg b,if_neg c,if_neg d,if_neg e]);have hcn:=(hb 2944256960 (by decide) (by decide));simp only[ae,Nat.reduceEqDiff,if_false,if_true,bC] at hcn;have bB1:=(hfr 2944257088 (by decide) (by decide) (by decide) (by decide) (by decide)).trans bB;have bL1:=(hfr 2944256448 (by decide) (by decide) (by decide) (by decide) (by decide)).trans bL;simp only[go_sem,h4,h6,h7,h42,h43,h44,bB1,bL1,hcn,w1,hd,Ye];refine⟨?_,?_⟩
   .rcases hr with ⟨rfl,rfl⟩|⟨rfl,rfl⟩|⟨rfl,rfl⟩<;>kernel_rfl
   refine⟨c,rfl,?_,?_⟩
   .rw[htk];exact hc.of_eq (af (by decide))
   exact gf.of_eq ((af (by decide)).trans (hfr _ (by decide) (by decide) (by decide) (by decide) (by decide)))
 have:k=ls.length:=by omega
 subst this;rw[aaD (by rw[aB];exact aad _)] at gp;rw[qN] at bC;simp only[go_sem,i46_l1,h43,h44,aW];refine WS g (pc:=pc) (cf:=cf) ?_ ?_ bB bL bC gp gf ?_
 .simp only[go_sem,h4]
 .simp only[go_sem,h6]
 intro Yc Ya q6 cB cL cC gp' gf';simp only[go_sem,h6] at q6;obtain⟨rp,np,_⟩:=gp'.NI (n:=4);obtain⟨rf,nf,_⟩:=gf'.NI (n:=4);have t1:List.take (2*ls.length) (nP (dX F ls))=nP (dX F ls):=aaD (by simp[dX,rF]);have t2:List.take (F+1) (nP (counts ls F))=nP (counts ls F):=aaD (by simp[counts]);have n1:2*ls.length<=(dX F ls).length:=by simp[dX,rF]
 have n2:F+1<=(counts ls F).length:=by simp[counts]
 simp only[go_sem,i46_r5,q6];simp only[go_sem,iE,lW,jH,fE,gK,jg,cB,cL,cC,np,nf,t1,t2,n1,n2];rfl
theorem jT{x:Int}(h1: -9223372036854775808<=x)(h2:x<=9223372036854775807):IntKind.i64.wrap x=x:=by
 have e:(2 ^ IntKind.i64.bits:Int)=18446744073709551616:=by decide
 have e2:(2 ^ (IntKind.i64.bits-1):Int)=9223372036854775808:=by decide
 unfold IntKind.wrap;simp only[e,e2];by_cases h:0<=x
 .have h3:x%18446744073709551616=x:=by omega
  rw[h3];have h4:¬x≥9223372036854775808:=by omega
  simp[h4]
 have h3:x%18446744073709551616=x+18446744073709551616:=by omega
 rw[h3];have h4:x+18446744073709551616≥9223372036854775808:=by omega
 have h5:IntKind.i64.signed=true:=rfl;simp[h4,h5]
theorem tR(l:List Pc):iD 7 (d5 l)=true:=by simp[iD,Pc.ps]
theorem dp(l:List Pc):((d5 l).all fun e=>e.all PV.scalar)=true:=by simp[Pc.ps,PV.scalar]
theorem mu(l:List Pc):∀e∈d5 l,e.length=7/\ ∀v∈e,v.norm=v:=fun e he=>by obtain⟨a,_,rfl⟩:=aan.1 he;exact⟨rfl,fun v hv=>by simp[Pc.ps] at hv;rcases hv with rfl|rfl|rfl|rfl|rfl|rfl|rfl<;>rfl⟩
abbrev bN(l x:List Pc)(k:Nat):List Pc:=l.take (k+1)++x++l.drop (k+1)
theorem xm(a b:List Pc):d5 (a++b)=d5 a++d5 b:=by simp
theorem aL(l x:List Pc)(k:Nat)(hk:k<l.length)(hl:l.length<=1000000)(hx:x.length<=1000000):
  bz S 120 [.one (.p (.sl (d5 l))),vi k,.one (.p (.sl (d5 x)))] (.one (aD gE 7 (d5 (bN l x k)))):=by
 have w1:=ah (n:=k) (by omega);have Yw:k+1<=l.length:=by omega
 have hs:=tR l;have ht:List.take (k+1) (d5 l)=d5 (l.take (k+1)):=by simp[acy]
 have hd:List.take (l.length-(k+1)) (List.drop (k+1) (d5 l))=d5 (l.drop (k+1)):=by rw[aaD (by simp)];simp[ac2]
 refine aP c120 ?_;simp only[go_sem,i120,w1,Yw,hs,ht];refine vl (id:=7680064256) (site:=7680064256) (bytes:=56) grown.nil (xs:=d5 (l.take (k+1))) (rd:=[]) rfl (.inr (tR _)) (by simp;omega) fun c1 Yi g1 Yo=>?_;simp only[go_sem];refine vl (id:=7680064256) (site:=7680128128) (bytes:=56) g1 (xs:=d5 x) (rd:=[]) rfl (.inr (tR _)) (by simp;omega) fun c2 Yg g2 Yp=>?_;simp only[go_sem,w1,Yw,hs,hd];refine vl (id:=7680128128) (site:=7680192320) (bytes:=56) g2 (xs:=d5 (l.drop (k+1))) (rd:=[]) rfl (.inr (tR _)) (by simp;omega) fun c3 Z4 g3 hb3=>?_;simp only[go_sem];rw[aaE,<- xm,<- xm] at g3;exact hJ g3
theorem To(p:Pc)(t:List Pc)(hl:(p::t).length<=1000000):bz S 119 [.one (.p (.sl (d5 (p::t))))] (.one (aD gE 7 (d5 (p::t)))):=by
 have hs:=tR (p::t);have hr:(0+(d5 (p::t)).length)*56<=room:=by unfold room;rw[aah];omega
 refine aP c119 ?_;obtain⟨e0,es,hq⟩:∃e0 es,d5 (p::t)=e0::es:=⟨_,_,rfl⟩;rw[hq] at hs hr ⊢;have Yk:e0::es≠[]:=by simp
 have hgr:aD gE 7 (e0::es)=.own gE 7 (e0::es):=if_neg Yk;rw[hgr];unfold room at hr;simp only[aa0,aas] at hr;simp only[iD,ab9] at hs;simp only[go_sem,i119,aN,iD];simp only[hs,hr,not_true_eq_false,if_true,if_false];simp only[go_sem];exact qB lz rfl
def sy(g ab b:Int)(p:Pc):Pc:=if (p.l.kind==1)&&((p.l.gate==g)&&decide (ab<p.l.Yb)) then {p with l:={p.l with Yb:=p.l.Yb+b}} else p
abbrev aX(l:List Pc)(g ab b:Int):List Pc:=l.map (sy g ab b)
def NW(id:Nat)(es:List (List PV))(c:C)(X9:aE)(v:V)(Ya:aE):Prop:=v=.tup []/\grown id gE 7 es (.one c) Ya/\Kept (· =id) X9 Ya
theorem RR{al:Al}{X9:aE}{id:Nat}{l:List Pc}{c:C}{g ab b:Int}(o:l=[]\/al.ok id=true)(hl:l.length<=1000000)(hb: -100<=b/\b<=100)(hr:∀p∈l,-1000000<=p.l.Yb/\p.l.Yb<=1000000)(h:grown id gE 7 (d5 l) (.one c) X9):
  ∃v Ya,vN S 117 [.one c,vi g,vi ab,vi b] al X9 v Ya/\NW id (d5 (aX l g ab b)) c X9 v Ya:=by
 refine iS c117 (aaU rfl) ?_;rcases h with ⟨h1,h2⟩|⟨Yk,gg,h2,hC⟩
 .cases h2;have hln:l=[]:=by simpa using h1
  subst hln;have hz:¬(((0:Nat):Int)<((0:Nat):Int)):=by omega
  simp only[go_sem,i117];refine bm (fun k env Ya=>k=0/\env 10=vi ((0:Nat):Int)/\env 11=vi ((0:Nat):Int)/\Ya=X9) 0 0 (aad _) ?_ ?_
  .simp only[go_sem];exact rfl
  rintro k env Ya _ ⟨rfl,YN,Zn,rfl⟩
  simp only[go_sem,i117_l1,YN,Zn,hz];exact⟨rfl,.inl ⟨rfl,rfl⟩,fun _ _=>rfl⟩
 cases h2;have o:=o.resolve_left (by simpa using Yk);simp only[go_sem,i117];refine bm (fun k env Ya=>env 0=.one (.hsl id gg 7 0 l.length)/\env 1=vi g/\env 2=vi ab/\env 3=vi b/\env 10=vi l.length/\env 11=vi k/\Ya id=(gg,some (.arr gE 7 (d5 ((aX (l.take k) g ab b)++l.drop k))))/\Kept (· =id) X9 Ya) 0 l.length (aae _) ?_ ?_
 .simp only[go_sem,hC];refine⟨?_,?_⟩
  .simp[]
  exact Kept.refl _ _
 rintro k env Ya hk ⟨h0,h1,h2,h3,YN,Zn,hF,YB⟩
 by_cases Ye:k<l.length
 .have Yf:((k:Int)<(l.length:Int)):=by omega
  obtain⟨p,hp⟩:=ai Ye;have w1:=ah (n:=k) (by omega);obtain⟨r1,r2⟩:=hr p (aab hp);have wr:=jT (x:=p.l.Yb+b) (by omega) (by omega);have hdr:l.drop k=p::l.drop (k+1):=by obtain⟨hh,rfl⟩:=aac.1 hp;exact List.drop_eq_getElem_cons hh
  have hlen:((aX (l.take k) g ab b)++l.drop k).length=l.length:=by simp[aX];omega
  have hat:((aX (l.take k) g ab b)++l.drop k)[k]?=some p:=by
   rw[acz (by simp[aX];omega)];have:k-(aX (l.take k) g ab b).length=0:=by simp[aX];omega
   rw[this,hdr];rfl
  have YA:((aX (l.take k) g ab b)++l.drop k).set k (sy g ab b p)=(aX (l.take (k+1)) g ab b)++l.drop (k+1):=by
   have e1:(aX (l.take k) g ab b).length=k:=by simp[aX];omega
   rw[List.set_append_right _ _ (by omega),e1,Nat.sub_self,hdr,List.set_cons_zero,abn,hp];simp[aX]
  have Zi:=cN hat;have aaI:d5 (((aX (l.take k) g ab b)++l.drop k).set k (sy g ab b p))=(d5 ((aX (l.take k) g ab b)++l.drop k)).set k (sy g ab b p).ps:=by simp[d5,List.map_set]
  rw[YA] at aaI;have Z5:sy g ab b p=p->d5 ((aX (l.take k) g ab b)++l.drop k)=d5 ((aX (l.take (k+1)) g ab b)++l.drop (k+1)):=fun e=>by rw[aaI,e];obtain⟨hh,he⟩:=aac.1 Zi;rw[<- he,List.set_getElem_self]
  generalize (aX (l.take k) g ab b)++l.drop k=m at hF hat Zi aaI Z5 hlen;have hml:k<(d5 m).length:=by rw[aah];omega
  cases c1:(p.l.kind==1) with
  |false=>have e:=Z5 (by unfold sy;rw[c1];rfl);simp only[go_sem,i117_l1,h0,h1,h2,h3,YN,Zn,hF,Zi,Pc.ps,Ye,Yf,c1,w1,o];exact⟨by rw[e],YB⟩
  |true=>
   cases c2:(p.l.gate==g) with
   |false=>have e:=Z5 (by unfold sy;rw[c1,c2];rfl);simp only[go_sem,i117_l1,h0,h1,h2,h3,YN,Zn,hF,Zi,Pc.ps,Ye,Yf,c1,c2,w1,o];exact⟨by rw[e],YB⟩
   |true=>
    by_cases c3:ab<p.l.Yb
    .have e:(sy g ab b p).ps=[.int .i64 p.l.kind,.int .i64 p.l.gate,.int .i64 (p.l.Yb+b),.int .i64 p.l.id,.int .i64 p.l.sign,.bool p.l.over,.bool p.d]:=by unfold sy;rw[c1,c2,decide_eq_true c3];rfl
     rw[e] at aaI;simp only[go_sem,i117_l1,h0,h1,h2,h3,YN,Zn,hF,Zi,Pc.ps,Ye,Yf,c1,c2,c3,w1,wr,o];refine⟨?_,?_⟩
     .first|rw[aaI]|(rw[aaI];rfl)
     exact YB.ij rfl _
    have e:=Z5 (by unfold sy;rw[c1,c2,decide_eq_false c3];rfl);simp only[go_sem,i117_l1,h0,h1,h2,h3,YN,Zn,hF,Zi,Pc.ps,Ye,Yf,c1,c2,c3,w1,o];exact⟨by rw[e],YB⟩
 have:k=l.length:=by omega
 subst this;simp only[go_sem,i117_l1,YN,Zn,aW];refine⟨rfl,?_,YB⟩;rw[aaV,List.drop_length,abo] at hF;exact .inr ⟨by simpa using Yk,gg,by simp[aX],hF⟩
def Vs(p:Pc):Bool:=(p.l.kind==1)&&p.d
def pdA(l:List Pc)(i:Nat):Bool:=match l[i]? with|some p=>Vs p|none=>false
theorem HK{l:List Pc}{i:Nat}{p:Pc}(h:l[i]?=some p):pdA l i=Vs p:=by simp[pdA,h]
def jm(l:List Pc):Option Nat:=(List.range l.length).find? (pdA l)
theorem Tf(p:Pc):bz S 104 [.agg (p.ps.map .p)] (rb (Vs p)):=by
 refine aP c104 ?_;unfold Vs;cases h:(p.l.kind==1) with
 |true=>simp only[go_sem,i104,Pc.ps,h]
 |false=>simp only[go_sem,i104,Pc.ps,h]
theorem SL(l:List Pc)(hl:l.length<=1000000):bz S 103 [.one (.p (.sl (d5 l))),.one (.p (.fn 104 [] []))] (ri (match jm l with|some k=>(k:Int)|none=> -1)):=by
 refine aP c103 ?_;simp only[go_sem,i103];refine bm (fun k env X9=>env 0=.one (.p (.sl (d5 l)))/\env 1=.one (.p (.fn 104 [] []))/\env 7=vi l.length/\env 8=vi k/\ ∀j,j<k->pdA l j=false) 0 l.length (aae _) ?_ ?_
 .simp only[go_sem];exact⟨rfl,fun j hj=>absurd hj (abB j)⟩
 rintro k env X9 hk ⟨h0,h1,h7,h8,hn⟩
 by_cases Ye:k<l.length
 .have Yf:((k:Int)<(l.length:Int)):=by omega
  obtain⟨p,hp⟩:=ai Ye;have Zi:=cN hp;have w1:=ah (n:=k) (by omega);have pd:=Tf p;have hpd:=HK hp;cases hb:Vs p with
  |true=>rw[hb] at pd hpd;have hf:jm l=some k:=fV Ye hn hpd;simp only[Pc.ps,aar,abb] at pd;simp only[go_sem,i103_l1,h0,h1,h7,h8,Yf,Zi,Pc.ps,s104,az pd,hf]
  |false=>
   rw[hb] at pd hpd;simp only[Pc.ps,aar,abb] at pd;simp only[go_sem,i103_l1,h0,h1,h7,h8,Ye,Yf,Zi,Pc.ps,s104,az pd,w1];intro j hj;rcases abe.1 hj with h|rfl
   .exact hn j h
   exact hpd
 have:k=l.length:=by omega
 subst this;have hf:jm l=none:=ft hn;simp only[go_sem,i103_l1,i103_r2,h7,h8,aW,hf]
abbrev lN:Nat:=44
def tZ(l:List Pc)(alT k:Nat):List Let:=(List.range k).map fun i=>(l.getD ((alT+i)%l.length) ⟨fG,false⟩).l
theorem Lq{l:List Pc}{f k:Nat}{p:Pc}(h:l[(f+k)%l.length]?=some p):tZ l f (k+1)=tZ l f k++[p.l]:=by simp[tZ,abZ,aal,h]
def mT(l:List Pc):List Let:=tZ l ((jm l).getD 0) l.length
abbrev eE(o:List Let):List (List PV):=o.map Let.ps
theorem Io{s1 t1 z1:Nat}{es:List (List PV)}{c:C}{x:PV}{X9:aE}(h:grown s1 t1 z1 es (.one c) X9):iE X9 (.agg [.p x,c])=some (.agg [.p x,aD t1 z1 es]):=by obtain⟨c',o,hc,h2,h3⟩:=h.jg;cases hc;rcases h3 with rfl|rfl<;>simp[iE,lW,fE,gK,h2,(show Go.Abs.jg X9 (.p x)=some (.p x,[],[]) from rfl),apart,ni,ik]
theorem zC(F:Nat)(l:List Pc)(hl:l.length<=1000000)(x1 x2 x3 x4 x5 x6:PV):bz S 78 [.one (.p (.box [.int .i64 F,x1,x2,x3,x4,x5,x6])),.one (.p (.sl (d5 l)))] (.agg [.p (.int .i64 F),aD lN 6 (eE (mT l))]):=by
 have px:=SL l hl;have hfd:∃f,(jm l).getD 0=f/\(l≠[]->f<l.length):=by
  refine⟨_,rfl,fun Yk=>?_⟩;cases h:jm l with
  |none=>exact aaQ.2 Yk
  |some k=>exact aav.1 (adS h)
 obtain⟨f,hf,hfl⟩:=hfd;have hmx:((jm l=none/\f=0)\/jm l=some f):=by
  cases h:jm l with
  |none=>rw[h] at hf;exact .inl ⟨rfl,hf.symm⟩
  |some k=>rw[h] at hf;exact .inr (congrArg some hf)
 unfold mT;rw[hf];have main:∀(env:Env) (X9:aE),env 1=.one (.p (.sl (d5 l)))->env 4=.one (.Yh 4992000000 1 0)->env 5=.one (.Yh 4992064320 1 0)->env 6=vi f->env 17=vi l.length->env 18=vi ((0:Nat):Int)->X9 4992000000=(1,some (.var [.p (.int .i64 0),.p .nils]))->X9 4992064320=(1,some (.var [.p (.int .i64 F),.p .nils]))->
   W S .all (.loop i78_l1) (fQ 0 (qk S .all i78_r2 (pY .all [(4,some (some 2))] fun v X9=>iE X9 v=some (.agg [.p (.int .i64 F),aD lN 6 (eE (tZ l f l.length))])))) env X9:=by
  intro env X9 e1 e4 e5 e6 e17 e18 b0 bO;refine bm (fun k env X9=>env 1=.one (.p (.sl (d5 l)))/\env 4=.one (.Yh 4992000000 1 0)/\env 5=.one (.Yh 4992064320 1 0)/\env 6=vi f/\env 17=vi l.length/\env 18=vi k/\X9 4992000000=(1,some (.var [.p (.int .i64 0),.p .nils]))/\ ∃c,X9 4992064320=(1,some (.var [.p (.int .i64 F),c]))/\grown 4992384832 lN 6 (eE (tZ l f k)) (.one c) X9) 0 l.length (aae _) ⟨e1,e4,e5,e6,e17,e18,b0,.p .nils,bO,.inl ⟨rfl,rfl⟩⟩ ?_;rintro k env X9 hk ⟨h1,h4,h5,h6,ZR,Zw,b0,c,bO,gc⟩
  by_cases Ye:k<l.length
  .have Yf:((k:Int)<(l.length:Int)):=by omega
   have Yk:l≠[]:=aaQ.1 (by omega);have hfl:=hfl Yk;have w1:=ah (n:=k) (by omega);have w2:=wrap_add (a:=f) (b:=k) (by omega);have e2:=fA (f+k) l.length;have hm:=aat (f+k) (show 0<l.length by omega);obtain⟨p,hp⟩:=ai hm;have Zi:=cN hp;have hz:¬((l.length:Int)=0):=by omega
   have hr:=Lq hp;have hle:(tZ l f k).length=k:=by simp[tZ]
   simp only[go_sem,i78_l1,h1,h5,h6,ZR,Zw,bO,Yf,w2,e2,hz,Zi,Pc.ps];refine vu (site:=4992384832) (id:=4992384832) (bytes:=48) (xs:=[p.l.ps]) (rd:=[4992384768]) (gc.of_eq (af (by decide))) (by simp[cM,ae,Let.ps]) (.inl rfl) (by simp only[aah,hle,aas,aaA];omega) fun c' Yi r u hc hb hru=>?_;have bO1:=(hb 4992064320 (by decide) (by decide)).trans ((af (by decide)).trans bO);have b01:=(hb 4992000000 (by decide) (by decide)).trans ((af (by decide)).trans b0);simp only[go_sem,h1,h4,h5,h6,ZR,Zw,bO1,b01,Ye,w1];refine⟨?_,c',rfl,?_⟩
   .rcases hru with ⟨rfl,rfl⟩|⟨rfl,rfl⟩|⟨rfl,rfl⟩<;>kernel_rfl
   rw[hr,eE,aaN];exact hc.of_eq (af (by decide))
  have:k=l.length:=by omega
  subst this;simp only[go_sem,i78_l1,i78_r2,h4,h5,ZR,Zw,bO,b0,aW];exact Io (gc.of_eq (af (by decide)))
 refine aP c78 ?_;rcases hmx with ⟨hn,rfl⟩|hs
 .rw[hn] at px;have aez:¬((0:Int)< -1):=by decide
  simp only[go_sem,i78,s103,bj px];exact main _ _ (by simp only[go_sem]) (by simp only[go_sem]) (by simp only[go_sem]) (by simp only[go_sem];rfl) (by simp only[go_sem]) (by simp only[go_sem];rfl) (by simp only[go_sem]) (by simp only[go_sem])
 rw[hs] at px;simp only[go_sem,i78,s103,bj px];exact main _ _ (by simp only[go_sem]) (by simp only[go_sem]) (by simp only[go_sem]) (by simp only[go_sem];split<;>(first|rfl|(congr 1;simp;omega))) (by simp only[go_sem]) (by simp only[go_sem];rfl) (by simp only[go_sem]) (by simp only[go_sem])
theorem JX:bz S 76 [] (.agg [.p .YF,.p (.fn 94 [] []),.p (.fn 95 [] []),.p (.fn 96 [] []),.p (.fn 97 [] []),.p (.fn 98 [] []),.p (.fn 99 [] []),.p (.fn 100 [] []),.p (.fn 101 [] []),.p (.fn 102 [] []),.p (.fn 102 [] [])]):=by refine aP c76 ?_;simp only[go_sem,i76];rfl
def ce(k:Int):Int×Int:=if k=2 then (2,0) else if k=5 then (2,1) else if k=7 then (4,2) else (0,0)
theorem Ke(k:Int):bz S 77 [vi k] (.tup [.one (.p (.int .i64 (ce k).1)),.one (.p (.int .i64 (ce k).2))]):=by
 refine aP c77 ?_;unfold ce;by_cases h2:k=2
 .subst h2;simp only[go_sem,i77];rfl
 by_cases h5:k=5
 .subst h5;simp only[go_sem,i77];rfl
 by_cases h7:k=7
 .subst h7;simp only[go_sem,i77];rfl
 rw[if_neg h2,if_neg h5,if_neg h7];have e2:(k==2)=false:=by simpa using h2
 have e5:(k==5)=false:=by simpa using h5
 have e7:(k==7)=false:=by simpa using h7
 simp only[go_sem,i77,e2,e5,e7];rfl
theorem rc(F:Nat)(x:Nat)(sg:Int)(ov:Bool)(x1 x2 x3 x4 x6:PV)(k:Nat)(hx:x<=1000000)(hk:k<=10):bz S 124 [.one (.p (.box [.int .i64 F,x1,x2,x3,x4,.int .i64 x,x6])),vi k,vi sg,vb ov] (.agg [.p (.int .i64 2),.p (.int .i64 0),.p (.int .i64 0),.p (.int .i64 ((x+k:Nat):Int)),.p (.int .i64 sg),.p (.bool ov),.p (.bool false)]):=by have w:=wrap_add (a:=x) (b:=k) (by omega);refine aP c124 ?_;simp only[go_sem,i124,w];rfl
def M6(o:List (Nat×Nat))(p:Nat×Nat)(i:Nat):Bool:=o[i]?==some p
theorem Fj(o:List (Nat×Nat))(p:Nat×Nat)(hl:o.length<=1000000):bz S 137 [.one (.p (.sl (we o))),.agg [.p (.int .i64 p.1),.p (.int .i64 p.2)]] (ri (match (List.range o.length).find? (M6 o p) with|some k=>(k:Int)|none=> -1)):=by
 refine aP c137 ?_;simp only[go_sem,i137];refine bm (fun k env X9=>env 0=.one (.p (.sl (we o)))/\env 3=.one (.Yh 8768000000 1 0)/\X9 8768000000=(1,some (.var [.p (.int .i64 p.1),.p (.int .i64 p.2)]))/\env 7=vi o.length/\env 8=vi k/\ ∀j,j<k->M6 o p j=false) 0 o.length (aae _) ?_ ?_
 .simp only[go_sem];exact⟨rfl,fun j hj=>absurd hj (abB j)⟩
 rintro k env X9 hk ⟨h0,h3,b0,h7,h8,hn⟩
 by_cases Ye:k<o.length
 .have Yf:((k:Int)<(o.length:Int)):=by omega
  obtain⟨q,hp⟩:=ai Ye;have Zi:=Vo hp;have w1:=ah (n:=k) (by omega);have hpd:M6 o p k=decide (q=p):=by simp only[M6,hp];by_cases h:q=p<;>simp[h]
  by_cases hb:q=p
  .subst hb;have hf:=fV (p:=M6 o q) Ye hn (by rw[hpd];simp);simp only[go_sem,i137_l1,h0,h3,b0,h7,h8,Yf,Zi,hf,ti,Kr];exact aH
  have hpf:M6 o p k=false:=by rw[hpd];exact decide_eq_false hb
  have Yk:((p.1:Int)==(q.1:Int))=false\/(((p.1:Int)==(q.1:Int))=true/\((p.2:Int)==(q.2:Int))=false):=by
   by_cases h1:q.1=p.1
   .refine .inr ⟨by simp[h1],?_⟩;have:q.2≠p.2:=fun h2=>hb (Prod.ext h1 h2);simp;omega
   left;simp;omega
  have hn':∀j,j<k+1->M6 o p j=false:=fun j hj=>by
   rcases abe.1 hj with h|rfl
   .exact hn j h
   exact hpf
  rcases Yk with e1|⟨e1,e2⟩
  .simp only[go_sem,i137_l1,h0,h3,b0,h7,h8,Ye,Yf,Zi,w1,ti,Kr,e1];exact⟨aH,hn'⟩
  simp only[go_sem,i137_l1,h0,h3,b0,h7,h8,Ye,Yf,Zi,w1,ti,Kr,e1,e2];exact⟨aH,hn'⟩
 have:k=o.length:=by omega
 subst this;have hf:=ft (p:=M6 o p) hn;simp only[go_sem,i137_l1,i137_r2,h7,h8,aW,hf]
theorem Gu(o:List (Nat×Nat))(p:Nat×Nat)(hl:o.length<=1000000):bz S 118 [.one (.p (.sl (we o))),.agg [.p (.int .i64 p.1),.p (.int .i64 p.2)]] (rb (decide (p∈o))):=by
 have pi:=Fj o p hl;refine aP c118 ?_;by_cases hm:p∈o
 .obtain⟨k,hk⟩:=aaO hm;have YY:=(aac.1 hk).1;cases hf:(List.range o.length).find? (M6 o p) with
  |none=>have:=adD.1 hf k (aav.2 YY);simp[M6,hk] at this
  |some j=>
   rw[hf] at pi;have hge:(0:Int)<=(j:Int):=by omega
   simp only[go_sem,i118,s137,bj pi,hge,hm]
 cases hf:(List.range o.length).find? (M6 o p) with
 |some j=>have h1:=List.find?_some hf;simp only[M6,beq_iff_eq] at h1;exact absurd (aab h1) hm
 |none=>
  rw[hf] at pi;have hge:¬(0:Int)<= -1:=by decide
  simp only[go_sem,i118,s137,bj pi,hge,hm]
theorem uK{l:List Pc}(Yk:l≠[])(hl:l.length<=1000000):bz S 119 [.one (.p (.sl (d5 l)))] (.one (aD gE 7 (d5 l))):=by
 cases l with
 |nil=>exact absurd rfl Yk
 |cons p t=>exact To p t hl
section
variable {Q:dO} {env:Env} {X9:aE} {os:List aj} {d:Option Nat}
theorem nE{id:Nat}{l:List Pc}{c:C}{g ab b:Int}(hl:l.length<=1000000)(hb: -100<=b/\b<=100)(hr:∀p∈l,-1000000<=p.l.Yb/\p.l.Yb<=1000000)(hg:grown id gE 7 (d5 l) (.one c) X9)
  (hK:∀Ya,grown id gE 7 (d5 (aX l g ab b)) (.one c) Ya->(∀i,i≠id->Ya i=X9 i)->RN S .all os Q (put env d (.tup [])) Ya):gP S .all (.sc 117 [.one c,vi g,vi ab,vi b]) d os Q env X9:=by
 have ho:l=[]\/(allow (S.ctx .all) 117 [.one c,vi g,vi ab,vi b] X9).ok id=true:=by
  rcases mt hg with ⟨h,_⟩|h
  .exact .inl (by simpa using h)
  exact .inr (ie (by simp[h]))
 refine jF (P:=NW id (d5 (aX l g ab b)) c X9) gb (RR ho hl hb hr hg) ?_;rintro v Ya ⟨rfl,h1,h2⟩
 exact hK Ya h1 h2
end
theorem Ic(fs:List Fc):∀(j:Nat) (L:List Nat),∀v∈iW fs j L,v∈L\/v<j+fs.length:=by
 have YA:∀(ds:List Nat) (L:List Nat) (x:Nat),∀v∈fm L ds x,v∈L\/v=x:=by
  intro ds
  induction ds with
  |nil=>intro L x v h;exact .inl h
  |cons d ds ih=>
   intro L x v h;rcases ih (L.set d x) x v h with h|h
   .rcases List.mem_or_eq_of_mem_set h with h|h
    .exact .inl h
    exact .inr h
   exact .inr h
 induction fs with
 |nil=>intro j L v h;exact .inl h
 |cons f r ih=>
  intro j L v h;rcases ih (j+1) (fm L f.Yj j) v h with h|h
  .rcases YA _ _ _ v h with h|h
   .exact .inl h
   subst h;exact .inr (by simp)
  exact .inr (by simp only[aas];omega)
def OJ:Fc:=⟨false,[],[],[],false⟩
def eL(F:Nat)(ls:List Let)(d:Nat):Fc:=(aT F ls).getD ((dX F ls).getD d 0) OJ
theorem nv(F:Nat)(ls:List Let):(dX F ls).length=2*ls.length:=by simp[dX,rF]
theorem vr(g:cD F ls){d:Nat}(hd:d<2*ls.length):∃j,(dX F ls)[d]?=some j/\(aT F ls)[j]?=some (eL F ls d)/\j<(aT F ls).length:=by
 obtain⟨j,hj⟩:=ai (ls:=dX F ls) (k:=d) (by rw[nv];exact hd);have hn:0<(aT F ls).length:=by rw[zH,g.nw];omega
 have hjl:j<(aT F ls).length:=by
  rcases Ic (aT F ls) 0 _ j (aab hj) with h|h
  .have:=adX h;omega
  omega
 refine⟨j,hj,?_,hjl⟩;obtain⟨f,hf⟩:=ai hjl;unfold eL;rw[aal (l:=dX F ls),hj,aaS,aal,hf];rfl
def oF(b:Nat)(r:Int)(d:Bool):Pc:=⟨⟨1,b,r,0,0,false⟩,d⟩
def qV(ls:List Let)(av b c:Nat)(f:Fc)(side:Bool):List Pc:=bN (aX (pieces ls) b c 2) [oF b (if f.Ym !=side then ((c+2:Nat):Int) else ((c+1:Nat):Int)) f.Ym,oF b (if f.Ym !=side then ((c+1:Nat):Int) else ((c+2:Nat):Int)) (!f.Ym)] av
def Nb(F:Nat)(ls:List Let)(av b c:Nat):Option (List Pc):=
 if (b,c)∈(eL F ls (2*av)).places then some (qV ls av b c (eL F ls (2*av)) false)
 else if (b,c)∈(eL F ls (2*av+1)).places then some (qV ls av b c (eL F ls (2*av+1)) true) else none
def kR (o:Option (List Pc)):RV:=.tup [.one (aD gE 7 (d5 (o.getD []))),.one (.p (.bool o.isSome))]
theorem lL(g:cD F ls):∀p∈pieces ls,-1000000<=p.l.Yb/\p.l.Yb<=1000000:=by
 intro p hp;obtain⟨i,hi⟩:=aaO hp;have hil:i<ls.length:=by rw[<- aB];exact(aac.1 hi).1
 obtain⟨l,hl⟩:=ai hil;rw[dw hl] at hi;cases hi;rcases g.ok.kinds l (aab hl) with h|h
 .have hg:=g.ok.ax.d9 l (aab hl) h;have:=hg.r0;have:=hg.r1;have hc:cg ls l.gate.toNat<=ls.length:=ir _ _;have:=g.len;simp only;omega
 have:=(qC (f:=F) h).1 (g.bad l (aab hl));simp only[this.1.2];omega
theorem QE{F:Nat}{ls:List Let}(g:cD F ls){av b c k:Nat}(ha:av<ls.length)(hbF:b<=F)(hc:c<=1000){l o:Bool}{sg:Int}(hk:k<2){env:Env}{X9:aE}{Q:dO}
  (h0:env 0=.one (.p (fp F ls))) (h3:env 3=.one (.Yh 6080000000 1 0)) (h6:env 6=.one (.Yh 6080064320 1 0)) (h7:env 7=.one (.Yh 6080128448 1 0)) (h8:env 8=.one (.Yh 6080192448 1 0)) (h40:env 40=vi k)
  (b3:X9 6080000000=(1,some (.var [.p (.int .i64 2),.p (.int .i64 av),.p (.int .i64 b),.p (.int .i64 c),.p (.bool l),.p (.bool o),.p (.int .i64 sg)]))) (b6:X9 6080064320=(1,some (.var [.p (.int .i64 b),.p (.int .i64 c)])))
  (b7:X9 6080128448=(1,some (.var ((oF b ((c+1:Nat):Int) true).ps.map .p)))) (b8:X9 6080192448=(1,some (.var ((oF b ((c+2:Nat):Int) false).ps.map .p))))
  (YH:(b,c)∉(eL F ls (2*av+k)).places->∀Yc Ya,Yc 0=env 0->Yc 3=env 3->Yc 6=env 6->Yc 7=env 7->Yc 8=env 8->Yc 40=vi ((k+1:Nat):Int)->(∀i,i≠6080577088->Ya i=X9 i)->W S .all (.loop i95_l1) (fQ 0 Q) Yc Ya)
  (akK:(b,c)∈(eL F ls (2*av+k)).places->∀Yc Ya s cc,Yc 4=.one cc->Yc 5=vb true->grown s gE 7 (d5 (qV ls av b c (eL F ls (2*av+k)) (k==1))) (.one cc) Ya->Q .ret Yc Ya):
  W S .all (.loop i95_l1) (fQ 0 Q) env X9:=by
 have hlen:=g.len;have aaK:=g.fing;obtain⟨j,hj1,hj2,hj3⟩:=vr g (d:=2*av+k) (by omega);have ak9:=aab hj2;have hjp:=dQ hj1;have hfp:=Iz hj2;have Ye:((k:Int)<2):=by omega
 have Yu:(eL F ls (2*av+k)).places.length<=1000000:=by obtain⟨w,hw,he⟩:=aan.1 ak9;obtain⟨_,hwl,hwm⟩:=dY g.ok w hw;have h1:=(Ms g.ok hwm w.length (aad _)).2.1;rw[Mt,he] at h1;have ZP:(aa ls).length<=ls.length:=fv ls ls.length;have h2:w.length*(2*F+2)<=1600*82:=Nat.mul_le_mul (by unfold nD at hwl;omega) (by omega);omega
 generalize hfe:eL F ls (2*av+k)=f at*;have pc:=Gu f.places (b,c) Yu;have m2:=dr (a:=av) (by omega);have m3:=wrap_add (a:=2*av) (b:=k) (by omega);have w1:=ah (n:=k) (by omega);have hdl:2*av+k<(dX F ls).length:=by rw[nv];omega
 have Yk:pieces ls≠[]:=aaQ.1 (by rw[aB];omega);have akW:=aB ls;have pcl:=uK Yk (by omega);have lo1:S.lone 6080896256=false:=by kernel_rfl
 have lo2:S.lone 6081024384=false:=by kernel_rfl
 have Za:S.shared 117=true:=by kernel_rfl
 refine fT ?_;by_cases hm:(b,c)∈f.places
 .have hcd:decide ((b,c)∈f.places)=true:=decide_eq_true hm;rw[hcd] at pc;have hsw:(!f.Ym==(((k:Nat):Int)==1))=(f.Ym !=(k==1)):=by
   rcases(show k=0\/k=1 by omega) with rfl|rfl<;>cases f.Ym<;>rfl
  have hln:(d5 (aX (pieces ls) b c 2)).length=(pieces ls).length:=by simp[aX]
  have t1:List.take (pieces ls).length (d5 (aX (pieces ls) b c 2))=d5 (aX (pieces ls) b c 2):=aaD (by rw[hln];exact aad _);cases hs:(f.Ym !=(k==1)) with
  |true=>
    rw[hs] at hsw;simp only[go_sem,i95_l1,h0,h3,h6,h7,h8,h40,b3,b6,b7,b8,Ye,m2,m3,hjp,hfp,Fc.ps,hsw,oF,Pc.ps,s118,az pc];refine⟨aH,aH,?_⟩;refine gA pcl lo1 (.inl rfl) fun cc Yi gc Yo=>?_;have e3:=Yo 6080000000 (by decide);have e7:=Yo 6080128448 (by decide);have e8:=Yo 6080192448 (by decide);simp only[go_sem,b3] at e3 e7 e8;simp only[go_sem,h3,e3,Za];refine nE (l:=pieces ls) (by omega) (by decide) (lL g) gc fun Yg gc2 Yp=>?_;have e3':=(Yp 6080000000 (by decide)).trans e3;have e7':=(Yp 6080128448 (by decide)).trans e7;have e8':=(Yp 6080192448 (by decide)).trans e8;rcases gc2 with ⟨e,_⟩|⟨_,gg,e,ZA⟩
    .exact absurd (by simpa [aX] using e) Yk
    cases e;simp only[go_sem,h3,h7,h8,e3',e7',e8',ZA,hln,t1,s120];refine gA (aL (aX (pieces ls) b c 2) [oF b ((c+2:Nat):Int) f.Ym,oF b ((c+1:Nat):Int) (!f.Ym)] av (by rw[aah];omega) (by rw[aah];omega) (by simp)) lo2 (.inr (ay (dp _))) fun c2 Z4 gc3 hb3=>?_;simp only[go_sem];exact akK hm _ _ _ c2 (by simp only[go_sem]) (by simp only[go_sem]) (by unfold qV;rw[hs];exact gc3)
  |false=>
    rw[hs] at hsw;simp only[go_sem,i95_l1,h0,h3,h6,h7,h8,h40,b3,b6,b7,b8,Ye,m2,m3,hjp,hfp,Fc.ps,hsw,oF,Pc.ps,s118,az pc];refine⟨aH,aH,?_⟩;refine gA pcl lo1 (.inl rfl) fun cc Yi gc Yo=>?_;have e3:=Yo 6080000000 (by decide);have e7:=Yo 6080128448 (by decide);have e8:=Yo 6080192448 (by decide);simp only[go_sem,b3] at e3 e7 e8;simp only[go_sem,h3,e3,Za];refine nE (l:=pieces ls) (by omega) (by decide) (lL g) gc fun Yg gc2 Yp=>?_;have e3':=(Yp 6080000000 (by decide)).trans e3;have e7':=(Yp 6080128448 (by decide)).trans e7;have e8':=(Yp 6080192448 (by decide)).trans e8;rcases gc2 with ⟨e,_⟩|⟨_,gg,e,ZA⟩
    .exact absurd (by simpa [aX] using e) Yk
    cases e;simp only[go_sem,h3,h7,h8,e3',e7',e8',ZA,hln,t1,s120];refine gA (aL (aX (pieces ls) b c 2) [oF b ((c+1:Nat):Int) f.Ym,oF b ((c+2:Nat):Int) (!f.Ym)] av (by rw[aah];omega) (by rw[aah];omega) (by simp)) lo2 (.inr (ay (dp _))) fun c2 Z4 gc3 hb3=>?_;simp only[go_sem];exact akK hm _ _ _ c2 (by simp only[go_sem]) (by simp only[go_sem]) (by unfold qV;rw[hs];exact gc3)
 have hcd:decide ((b,c)∈f.places)=false:=decide_eq_false hm;rw[hcd] at pc;simp only[go_sem,i95_l1,h0,h3,h6,h40,b3,b6,Ye,m2,m3,hjp,hfp,Fc.ps,s118,az pc,w1];refine⟨aH,YH hm _ _ ?_ ?_ ?_ ?_ ?_ ?_ fun i hi=>?_⟩
 .simp only[go_sem,h0]
 .simp only[go_sem,h3]
 .simp only[go_sem,h6]
 .simp only[go_sem,h7]
 .simp only[go_sem,h8]
 .simp only[go_sem]
 simp only[ae,if_neg hi]
theorem I2(g:cD F ls){av b c:Nat}(ha:av<ls.length)(hbF:b<=F)(hc:c<=1000){l o:Bool}{sg:Int}:
  bz S 95 [.one (.p (fp F ls)),oG 2 av b c l o sg] (kR (Nb F ls av b c)):=by
 have w1:=ah (n:=c) (by omega);have w2:IntKind.i64.wrap ((c:Int)+2)=((c+2:Nat):Int):=(jT (x:=(c:Int)+2) (by omega) (by omega)).trans (by omega);have hlen:=g.len;have hnz:(((pieces ls).length:Int)==0)=false:=beq_eq_false_iff_ne.2 (by rw[aB];omega);have Z3:∀Yc Ya s cc (L:List Pc),Nb F ls av b c=some L->Yc 4=.one cc->Yc 5=vb true->grown s gE 7 (d5 L) (.one cc) Ya->
   fQ 0 (qk S .all i95_r2 (pY .all [(4,none),(5,none)] fun v X9=>iE X9 v=some (kR (Nb F ls av b c)))) .ret Yc Ya:=fun Yc Ya s cc L hL h4 h5 hg=>by
  simp only[go_sem,h4,h5];rw[hL];exact aS hg
 refine aP c95 ?_;simp only[go_sem,i95,w1,w2,hnz];have k0:2*av+0=2*av:=rfl;refine QE g ha hbF hc (k:=0) (by omega) (l:=l) (o:=o) (sg:=sg) ?_ ?_ ?_ ?_ ?_ ?_ ?_ ?_ ?_ ?_ ?_ ?_
 .simp only[go_sem]
 .simp only[go_sem]
 .simp only[go_sem]
 .simp only[go_sem]
 .simp only[go_sem]
 .simp only[go_sem];rfl
 .simp only[go_sem]
 .simp only[go_sem]
 .simp only[go_sem];rfl
 .simp only[go_sem];rfl
 .intro hm Yc Ya q0 q3 q6 q7 q8 q40 hb;have hm0:(b,c)∉(eL F ls (2*av)).places:=hm;simp only[go_sem] at q0 q3 q6 q7 q8;refine QE g ha hbF hc (k:=1) (by omega) (l:=l) (o:=o) (sg:=sg) q0 q3 q6 q7 q8 q40 ?_ ?_ ?_ ?_ ?_ ?_
  .rw[hb _ (by decide)];simp only[go_sem]
  .rw[hb _ (by decide)];simp only[go_sem]
  .rw[hb _ (by decide)];simp only[go_sem];rfl
  .rw[hb _ (by decide)];simp only[go_sem];rfl
  .intro hm2 Yn Yg p0 p3 p6 p7 p8 p40 Yp;have hr:Nb F ls av b c=none:=by unfold Nb;rw[if_neg hm0,if_neg hm2]
   have hge:¬(((1+1:Nat):Int)<2):=by decide
   refine fT ?_;simp only[go_sem,i95_l1,i95_r2,p40,hge,hr];rfl
  intro hm2 Yn Yg s cc h4 h5 hg;exact Z3 Yn Yg s cc _ (by unfold Nb;rw[if_neg hm0,if_pos hm2];rfl) h4 h5 hg
 intro hm Yn Yg s cc h4 h5 hg;have hm0:(b,c)∈(eL F ls (2*av)).places:=hm;exact Z3 Yn Yg s cc _ (by unfold Nb;rw[if_pos hm0];rfl) h4 h5 hg
def Wy(ls:List Let)(av:Nat)(sg:Int)(o:Bool):List Pc:=bN (pieces ls) [⟨⟨2,0,0,((ao Let.aw ls/2+1:Nat):Int),sg,o⟩,false⟩,⟨⟨2,0,0,((ao Let.aw ls/2+1:Nat):Int),sg,!o⟩,false⟩] av
theorem HZ(g:cD F ls){av:Nat}(ha:av<ls.length){b c:Int}{l o:Bool}{sg:Int}:
  bz S 98 [.one (.p (fp F ls)),oG 5 av b c l o sg] (kR (some (Wy ls av sg o))):=by
 have YV:=g.cr;have pv1:=rc F (ao Let.aw ls/2) sg o (.sl (d5 (pieces ls))) (.sl (zE (aT F ls))) (.sl (nP (dX F ls))) (.int .i64 (ao Let.aA ls:Nat)) (.sl (nP (counts ls F))) 1 (by omega) (by omega);have pv2:=rc F (ao Let.aw ls/2) sg (!o) (.sl (d5 (pieces ls))) (.sl (zE (aT F ls))) (.sl (nP (dX F ls))) (.int .i64 (ao Let.aA ls:Nat)) (.sl (nP (counts ls F))) 1 (by omega) (by omega);have hlen:=g.len;have akW:=aB ls;have pin:=aL (pieces ls) [⟨⟨2,0,0,((ao Let.aw ls/2+1:Nat):Int),sg,o⟩,false⟩,⟨⟨2,0,0,((ao Let.aw ls/2+1:Nat):Int),sg,!o⟩,false⟩] av (by omega) (by omega) (by simp);have lo:S.lone 6272065280=false:=by kernel_rfl
 refine aP c98 ?_;have c1:((1:Nat):Int)=1:=rfl;rw[c1] at pv1 pv2;have Zy:∀X9:aE,∀s,∀x1 x2 x3 x4 x5 x6 x7:PV,land X9 [] s ((RV.agg [.p x1,.p x2,.p x3,.p x4,.p x5,.p x6,.p x7]).bZ (S.lone s))=some (.agg [.p x1,.p x2,.p x3,.p x4,.p x5,.p x6,.p x7],[]):=fun X9 s x1 x2 x3 x4 x5 x6 x7=>by cases S.lone s<;>rfl
 simp only[go_sem,i98,s124,bl pv1 (Zy _ _ _ _ _ _ _ _ _),bl pv2 (Zy _ _ _ _ _ _ _ _ _),s120];refine eI pin lo (.inr (ay (dp _))) fun cc Yi w gc hb hw=>?_;simp only[go_sem];refine⟨?_,aS gc⟩;rcases hw with rfl|rfl<;>kernel_rfl
def rJ(n:Nat)(i:Int):Bool:=decide (0<=i)&&decide (i<(n:Int))
theorem Xx(i:Int)(n:Nat):bz S 93 [vi i,.one (.p (.box [.int .i64 n]))] (rb (rJ n i)):=by
 refine aP c93 ?_;unfold rJ;by_cases h1:0<=i
 .by_cases h2:i<(n:Int)
  .simp only[go_sem,i93,h1,h2]
  simp only[go_sem,i93,h1,h2]
 simp only[go_sem,i93,h1]
theorem yy(l:List Let):((eE l).all fun e=>e.all PV.scalar)=true:=by simp[Let.ps,PV.scalar]
abbrev sR(F:Nat)(L:List Let):RV:=.tup [.agg [.p (.int .i64 F),aD lN 6 (eE L)],.one (.p (.int .i64 0))]
def IL(F:Nat)(ls:List Let)(k:Int):Option (List Pc)->RV
 |none=>ji 4
 |some L=>if (400:Int)<(ls.length:Int)+(ce k).1\/(100:Int)<((ao Let.aw ls/2:Nat):Int)+(ce k).2 then ji 7 else sR F (mT L)
def tJ(h:Nat):List Let:=(List.range (2*h)).map fun i=>⟨1,0,((i+1:Nat):Int),0,0,false⟩
section
variable {h:Nat}
theorem kU:(tJ h).length=2*h:=by simp[tJ]
theorem sN{i:Nat}(hi:i<2*h):(tJ h)[i]?=some ⟨1,0,((i+1:Nat):Int),0,0,false⟩:=by unfold tJ;rw[aaz,abw hi];rfl
theorem rj{l:Let}(hl:l∈tJ h):∃i,i<2*h/\l=⟨1,0,((i+1:Nat):Int),0,0,false⟩:=by obtain⟨i,hi,rfl⟩:=aan.1 hl;exact⟨i,aav.1 hi,rfl⟩
theorem CI(p:Let->Bool)(hp:∀l∈tJ h,p l=true)(k:Nat)(hk:k<=2*h):ao p ((tJ h).take k)=k:=by unfold ao;rw[List.countP_eq_length.2 fun l hl=>hp l (ab2 hl),aay,kU];omega
theorem TU:∀l∈tJ h,l.aA=true:=fun l hl=>by obtain⟨i,_,rfl⟩:=rj hl;rfl
theorem Rp:ao Let.aA (tJ h)=2*h:=by have:=CI (h:=h) Let.aA TU (2*h) (aad _);rwa[aaD (by rw[kU];exact aad _)] at this
theorem Ro:ao Let.aw (tJ h)=0:=by unfold ao;rw[adw];intro l hl;obtain⟨i,_,rfl⟩:=rj hl;simp[Let.aw]
theorem Vc:cg (tJ h) 0=2*h:=by have:=CI (h:=h) (vG 0) (fun l hl=>by obtain⟨i,_,rfl⟩:=rj hl;rfl) (2*h) (aad _);rwa[aaD (by rw[kU];exact aad _)] at this
theorem NB{i:Nat}(hi:i<=2*h):dn (tJ h) i=(i%2==0):=by unfold dn;rw[CI (h:=h) Let.aA TU i hi]
theorem Hm(i:Nat):dk (tJ h) ⟨1,0,((i+1:Nat):Int),0,0,false⟩=i:=by unfold dk;have:bk (tJ h) 0=0:=rfl;simp only[Int.toNat_zero,this,aba];omega
theorem EA:fB 1 (tJ h)=true:=by
 refine(jZ (F:=1)).2 ⟨?_,?_,?_⟩
 .rw[ac4];intro l hl;obtain⟨i,_,rfl⟩:=rj hl;simp[cF]
 .refine(jB (F:=1) fun l hl hp=>?_).2 ⟨fun l hl hp=>?_,fun i j l m h1 h2 _ _ he=>?_⟩
  .obtain⟨i,_,rfl⟩:=rj hl;exact⟨by simp,by simp⟩
  .obtain⟨i,hi,rfl⟩:=rj hl;refine⟨by simp,by simp,by simp;omega,?_⟩;show((i+1:Nat):Int)<=(cg (tJ h) (0:Int).toNat:Int);rw[Int.toNat_zero,Vc];omega
  have i1:=(aac.1 h1).1;have i2:=(aac.1 h2).1;rw[kU] at i1 i2;rw[sN i1] at h1;rw[sN i2] at h2;cases h1;cases h2;rw[Hm,Hm] at he;exact he
 unfold dN;have h0:dR (tJ h) (tJ h).length=[]:=by
  have:∀k,k<=2*h->dR (tJ h) k=[]:=by
   intro k
   induction k with
   |zero=>intro _;rfl
   |succ k ih=>intro hk;unfold dR;rw[sN (show k<2*h by omega),ih (by omega)];rfl
  exact this _ (by rw[kU];exact aad _)
 rw[h0,Ro];simp only[aaf];refine⟨⟨rfl,aaP.2 fun k hk=>?_⟩,rfl⟩;have hk:=aav.1 hk;rw[kU] at hk;unfold vQ;rw[sN hk];rfl
theorem Vb(hh:h<=500000):dT 1 (tJ h):=by
 obtain⟨Yo,hrk,YV⟩:=(jZ (F:=1)).1 (EA (h:=h));have hbl:∀l∈tJ h,cF 1 l=false:=fun l hl=>by simpa using ac4.1 Yo l hl
 have hg:jc 1 (tJ h):=fun l hl hp=>((cJ hp).1 (hbl l hl)).1.1.1;obtain⟨g1,g2⟩:=(jB hg).1 hrk;exact⟨by rw[kU];omega,⟨g1,g2⟩,YV,fun l hl=>gR (hbl l hl)⟩
theorem Jp:(aa (tJ h)).length=2*h:=by rw[jJ,Rp]
theorem Jq(hh:h<=500000){i:Nat}(hi:i<2*h):(aa (tJ h)).idxOf i=i:=by rw[nT (Vb hh).ax (sN hi) rfl,Hm]
theorem Nz(hh:h<=500000){e:Nat}(he:e<2*h):bU (tJ h) (2*e)=if ((e+1)%(2*h))%2=0 then 4*h+2*((e+1)%(2*h)) else 4*h+2*(((e+1)%(2*h)+2*h-1)%(2*h))+1:=by
 have hm:=aat (e+1) (show 0<2*h by omega);show cX _ _ _=_;unfold cX;rw[kU,Jp,if_neg (by omega)];have e1:(2*e%2==0)=true:=by simp
 simp only[e1,if_true,show 2*e/2=e by omega,sN hm,Jq hh hm,NB (Nat.le_of_lt hm)];generalize (e+1)%(2*h)=m;by_cases c:m%2=0
 .simp[c];omega
 simp[c];omega
theorem NA(hh:h<=500000){e:Nat}(he:e<2*h):bU (tJ h) (2*e+1)=if e%2=0 then 4*h+2*((e+2*h-1)%(2*h))+1 else 4*h+2*e:=by
 show cX _ _ _=_;unfold cX;rw[kU,Jp,if_neg (by omega)];have e1:((2*e+1)%2==0)=false:=by simp
 simp only[e1,aaq,if_false,show(2*e+1)/2=e by omega,sN he,Jq hh he,NB (Nat.le_of_lt he)];by_cases c:e%2=0
 .simp[c];omega
 have:(e%2==0)=false:=by simpa using c
 simp[c];omega
end
section
variable {h:Nat}
theorem WX{n e:Nat}(he:e<n):(e+1)%n=if e+1=n then 0 else e+1:=by
 by_cases c:e+1=n
 .rw[if_pos c,c,acx]
 rw[if_neg c,aaB (by omega)]
theorem WW{n m:Nat}(hm:m<n):(m+n-1)%n=if m=0 then n-1 else m-1:=by
 by_cases c:m=0
 .rw[if_pos c];subst c;rw[aa0,aaB (by omega)]
 rw[if_neg c,show m+n-1=(m-1)+n by omega,abX,aaB (by omega)]
theorem v1(hh:h<=500000){e:Nat}(he:e<2*h)(c:e%2=0):bU (tJ h) (2*e)=4*h+2*e+1:=by rw[Nz hh he,WX he,if_neg (by omega:¬e+1=2*h),if_neg (by omega),WW (by omega),if_neg (by omega)];omega
theorem v2(hh:h<=500000){e:Nat}(he:e<2*h)(c:e%2=1):∃q,q<2*h/\q%2=0/\(e+1<2*h->q=e+1)/\bU (tJ h) (2*e)=4*h+2*q:=by
 rw[Nz hh he,WX he];by_cases d:e+1=2*h
 .rw[if_pos d];exact⟨0,by omega,rfl,by omega,rfl⟩
 rw[if_neg d,if_pos (by omega)];exact⟨e+1,by omega,by omega,fun _=>rfl,rfl⟩
theorem v3(hh:h<=500000){e:Nat}(he:e<2*h)(c:e%2=0):∃q,q<2*h/\q%2=1/\(1<=e->q=e-1)/\bU (tJ h) (2*e+1)=4*h+2*q+1:=by
 rw[NA hh he,if_pos c,WW he];by_cases d:e=0
 .rw[if_pos d];exact⟨2*h-1,by omega,by omega,by omega,rfl⟩
 rw[if_neg d];exact⟨e-1,by omega,by omega,fun _=>rfl,rfl⟩
theorem v4(hh:h<=500000){e:Nat}(he:e<2*h)(c:e%2=1):bU (tJ h) (2*e+1)=4*h+2*e:=by rw[NA hh he,if_neg (by omega)]
end
theorem PI(L:List Pc):(mT L).length=L.length:=by simp[mT,tZ]
theorem aQ(l x:List Pc)(k:Nat):(bN l x k).length=l.length+x.length:=by simp only[bN,aaF,aay,aa1];omega
end
end Go.Abs
