/- A part. -/
import Derived.Test.YtfgognempokgkaaGreatDoorWh
set_option linter.all false
set_option maxRecDepth 100000
set_option maxHeartbeats 16000000
namespace Go.Abs
section
variable{F:Nat}{ls:List Let}
theorem TN{e:List PV}(h:e.length=1):∃x0,e=[x0]:=by
 match e,h with
 |[a],_=>exact⟨a,rfl⟩
theorem TO{e:List PV}(h:e.length=2):∃x0 x1,e=[x0,x1]:=by
 match e,h with
 |[a,b],_=>exact⟨a,b,rfl⟩
theorem TP{e:List PV}(h:e.length=7):∃x0 x1 x2 x3 x4 x5 x6,e=[x0,x1,x2,x3,x4,x5,x6]:=by
 match e,h with
 |[a,b,c,d,f,g,i],_=>exact⟨a,b,c,d,f,g,i,rfl⟩
structure sv (es fs:List (List PV)) (k:Nat):Prop where
 len:fs.length=es.length
 at':∀i,i<es.length->fs[i]?=if i<k\/es.length-1-i<k then es[es.length-1-i]? else es[i]?
theorem sv.start(es:List (List PV)):sv es es 0:=⟨rfl,fun i _=>by rw[if_neg aa]⟩
theorem sv.step{es fs:List (List PV)}{k:Nat}{a b:List PV}(h:sv es fs k)(hk:k<es.length-1-k)(ha:es[k]?=some a)(hb:es[es.length-1-k]?=some b):
  fs[k]?=some a/\fs[es.length-1-k]?=some b/\sv es ((fs.set k b).set (es.length-1-k) a) (k+1):=by
 have hlen:=h.len;refine⟨?_,?_,⟨by rw[kY,kY];exact hlen,fun i hi=>?_⟩⟩
 .rw[h.at' k aa,if_neg aa,ha]
 .rw[h.at' _ aa,if_neg aa,hb]
 rw[ml,kY];by_cases e1:es.length-1-k=i
 .rw[if_pos e1,if_pos aa,if_pos aa,show es.length-1-i=k by omega,ha]
 rw[if_neg e1,ml];by_cases e2:k=i
 .subst e2;rw[if_pos rfl,if_pos aa,if_pos aa,hb]
 rw[if_neg e2,h.at' i hi];by_cases e3:i<k\/es.length-1-i<k
 .rw[if_pos e3,if_pos aa]
 rw[if_neg e3,if_neg aa]
theorem sv.done{es fs:List (List PV)}{k:Nat}(h:sv es fs k)(hk:¬k<es.length-1-k):fs=es.reverse:=by
 refine List.ext_getElem? fun i=>?_;rcases Nat.lt_or_ge i es.length with hi|hi
 .rw[h.at' i hi,List.getElem?_reverse hi];by_cases e:i<k\/es.length-1-i<k
  .rw[if_pos e]
  rw[if_neg e,show es.length-1-i=i by omega]
 rw[uT (by rw[h.len];exact hi),uT (by rw[xO];exact hi)]
def A9(id ty z:Nat)(es:List (List PV))(c:C)(blk:aw)(v:V)(ak:aw):Prop:=v=.tup []/\grown id ty z es.reverse (.one c) ak/\Kept (· =id) blk ak
theorem aeE{al:Al}{blk:aw}{id ty:Nat}{es:List (List PV)}{c:C}(o:es=[]\/al.ok id=true)(hl:es.length<=1000000)(ig:∀e∈es,e.length=1/\ ∀v∈e,v.norm=v)(h:grown id ty 1 es (.one c) blk):
  ∃v ak,fT S 79 [.one c] al blk v ak/\A9 id ty 1 es c blk v ak:=by
 refine lf c79 (fy rfl) ?_;rcases h with ⟨rfl,h2⟩|⟨aR,g,h2,hC⟩
 .cases h2;have w0:IntKind.i64.wrap (((0:Nat):Int)-1)= -1:=ae;have hz:¬((0:Int)< -1):=ae;simp only[go_sem,i79,w0];refine ck (fun k aj ak=>k=0/\aj 2=vi 0/\aj 3=vi (-1)/\ak=blk) 0 0 (bo _) ?_ ?_
  .simp only[go_sem]
  rintro k aj ak _ ⟨rfl,h2,h3,rfl⟩
  simp only[go_sem,i79_l1,h2,h3,hz];exact⟨rfl,.inl ⟨rfl,rfl⟩,fun _ _=>rfl⟩
 cases h2;have o:=o.resolve_left aR;have w0:=ru (a:=es.length) aa;simp only[go_sem,i79,w0];refine ck (fun k aj ak=>aj 0=.one (.hsl id g 1 0 es.length)/\aj 2=vi k/\aj 3=vi ((es.length:Int)-1-(k:Int))/\ ∃fs,ak id=(g,some (.arr ty 1 fs))/\sv es fs k/\Kept (· =id) blk ak) 0 es.length (bc _) ?_ ?_
 .simp only[go_sem];refine⟨rfl,af,es,hC,sv.start es,Kept.refl _ _⟩
 rintro k aj ak hk ⟨h0,h2,h3,fs,hF,hI,bJ⟩
 by_cases au:k<es.length-1-k
 .have e1:((es.length:Int)-1-(k:Int))=((es.length-1-k:Nat):Int):=aa;rw[e1] at h3;have aF:((k:Int)<((es.length-1-k:Nat):Int)):=aa;have w1:=bj (n:=k) aa;have w2:IntKind.i64.wrap (((es.length-1-k:Nat):Int)-1)=((es.length:Int)-1-((k+1:Nat):Int)):=by
   rw[ru aa];omega
  obtain⟨a,ha⟩:=aL (show k<es.length by omega);obtain⟨b,hb⟩:=aL (show es.length-1-k<es.length by omega);obtain⟨fa,fb,rV⟩:=hI.step au ha hb;obtain⟨la,na⟩:=ig a (ba ha);obtain⟨lb,nb⟩:=ig b (ba hb);obtain⟨x0,rfl⟩:=TN la;obtain⟨y0,rfl⟩:=TN lb;have FR:=na x0 af;have FT:=nb y0 af;have qH:=hI.len;have Aq:¬(k=es.length-1-k):=aa;have S3:¬(es.length-1-k=k):=aa;have l1:k<fs.length:=aa;have l2:es.length-1-k<fs.length:=aa;have l3:k<es.length:=aa;have l4:es.length-1-k<es.length:=aa;simp only[go_sem,i79_l1,h0,h2,h3,hF,aF,fa,fb,w1,w2,o,l1,l3,l4,Aq,FR,FT,ml];refine⟨ay,_,rfl,rV,?_⟩;exact(bJ.ca rfl _).ca rfl _
 have aF:¬((k:Int)<(es.length:Int)-1-(k:Int)):=aa;simp only[go_sem,i79_l1,h2,h3,aF];refine⟨rfl,?_,bJ⟩;rw[hI.done au] at hF;exact .inr ⟨by simpa using aR,g,by rw[xO],hF⟩
theorem aeF{al:Al}{blk:aw}{id ty:Nat}{es:List (List PV)}{c:C}(o:es=[]\/al.ok id=true)(hl:es.length<=1000000)(ig:∀e∈es,e.length=2/\ ∀v∈e,v.norm=v)(h:grown id ty 2 es (.one c) blk):
  ∃v ak,fT S 78 [.one c] al blk v ak/\A9 id ty 2 es c blk v ak:=by
 refine lf c78 (fy rfl) ?_;rcases h with ⟨rfl,h2⟩|⟨aR,g,h2,hC⟩
 .cases h2;have w0:IntKind.i64.wrap (((0:Nat):Int)-1)= -1:=ae;have hz:¬((0:Int)< -1):=ae;simp only[go_sem,i78,w0];refine ck (fun k aj ak=>k=0/\aj 2=vi 0/\aj 3=vi (-1)/\ak=blk) 0 0 (bo _) ?_ ?_
  .simp only[go_sem]
  rintro k aj ak _ ⟨rfl,h2,h3,rfl⟩
  simp only[go_sem,i78_l1,h2,h3,hz];exact⟨rfl,.inl ⟨rfl,rfl⟩,fun _ _=>rfl⟩
 cases h2;have o:=o.resolve_left aR;have w0:=ru (a:=es.length) aa;simp only[go_sem,i78,w0];refine ck (fun k aj ak=>aj 0=.one (.hsl id g 2 0 es.length)/\aj 2=vi k/\aj 3=vi ((es.length:Int)-1-(k:Int))/\ ∃fs,ak id=(g,some (.arr ty 2 fs))/\sv es fs k/\Kept (· =id) blk ak) 0 es.length (bc _) ?_ ?_
 .simp only[go_sem];refine⟨rfl,af,es,hC,sv.start es,Kept.refl _ _⟩
 rintro k aj ak hk ⟨h0,h2,h3,fs,hF,hI,bJ⟩
 by_cases au:k<es.length-1-k
 .have e1:((es.length:Int)-1-(k:Int))=((es.length-1-k:Nat):Int):=aa;rw[e1] at h3;have aF:((k:Int)<((es.length-1-k:Nat):Int)):=aa;have w1:=bj (n:=k) aa;have w2:IntKind.i64.wrap (((es.length-1-k:Nat):Int)-1)=((es.length:Int)-1-((k+1:Nat):Int)):=by
   rw[ru aa];omega
  obtain⟨a,ha⟩:=aL (show k<es.length by omega);obtain⟨b,hb⟩:=aL (show es.length-1-k<es.length by omega);obtain⟨fa,fb,rV⟩:=hI.step au ha hb;obtain⟨la,na⟩:=ig a (ba ha);obtain⟨lb,nb⟩:=ig b (ba hb);obtain⟨x0,x1,rfl⟩:=TO la;obtain⟨y0,y1,rfl⟩:=TO lb;have FR:=na x0 af;have MB:=na x1 af;have FT:=nb y0 af;have MC:=nb y1 af;have qH:=hI.len;have Aq:¬(k=es.length-1-k):=aa;have S3:¬(es.length-1-k=k):=aa;have l1:k<fs.length:=aa;have l2:es.length-1-k<fs.length:=aa;have l3:k<es.length:=aa;have l4:es.length-1-k<es.length:=aa;simp only[go_sem,i78_l1,h0,h2,h3,hF,aF,fa,fb,w1,w2,o,l1,l3,l4,Aq,FR,MB,FT,MC,ml];refine⟨ay,_,rfl,rV,?_⟩;exact(bJ.ca rfl _).ca rfl _
 have aF:¬((k:Int)<(es.length:Int)-1-(k:Int)):=aa;simp only[go_sem,i78_l1,h2,h3,aF];refine⟨rfl,?_,bJ⟩;rw[hI.done au] at hF;exact .inr ⟨by simpa using aR,g,by rw[xO],hF⟩
structure Swo {α:Type} (lt:α->α->Bool):Prop where
 asym:∀a b,lt a b=true->lt b a=false
 ntrans:∀a b c,lt b a=false->lt c b=false->lt c a=false
def tU{α:Type}(lt:α->α->Bool)(ws:List α)(a b:Nat):Prop:=∀p q x y,a<=p->p<q->q<b->ws[p]?=some x->ws[q]?=some y->lt y x=false
structure tS {α:Type} (lt:α->α->Bool) (zs ws:List α) (x:α) (a i j:Nat):Prop where
 perm:ws.Perm zs
 le:a<=j/\j<=i/\i<ws.length
 at':ws[j]?=some x
 up:∀p y,j<p->p<=i->ws[p]?=some y->lt x y=true
 so:∀p q y z,a<=p->p<q->q<=i->p≠j->q≠j->ws[p]?=some y->ws[q]?=some z->lt z y=false
 out:∀p,p<a\/i<p->ws[p]?=zs[p]?
theorem tS.start{α:Type}{lt:α->α->Bool}{zs:List α}{x:α}{a i:Nat}(ha:a<=i)(hi:zs[i]?=some x)(hs:tU lt zs a i):tS lt zs zs x a i i:=
 ⟨.refl _,⟨ha,bo _,(bn.1 hi).1⟩,hi,fun p y h1 h2=>aa,fun p q y z h0 h1 h2 h3 h4=>hs p q y z h0 h1 aa,fun _ _=>rfl⟩
theorem swap_perm{α:Type}{ws:List α}{i j:Nat}{x y:α}(hi:ws[i]?=some x)(hj:ws[j]?=some y):((ws.set i y).set j x).Perm ws:=by obtain⟨h1,e1⟩:=bn.1 hi;obtain⟨h2,e2⟩:=bn.1 hj;have:=List.set_set_perm h1 h2;rwa[e1,e2] at this
theorem tS.step{α:Type}{lt:α->α->Bool}{zs ws:List α}{x y:α}{a i j:Nat}(o:Swo lt)(h:tS lt zs ws x a i (j+1))(hj:a<=j)(hy:ws[j]?=some y)(au:lt x y=true):
  tS lt zs ((ws.set (j+1) y).set j x) x a i j:=by
 obtain⟨hp,⟨_,hle,hl⟩,gJ,uC,CB,jD⟩:=h;have Ao:j<ws.length:=(bn.1 hy).1;have get:∀p,((ws.set (j+1) y).set j x)[p]?=if p=j then some x else if p=j+1 then some y else ws[p]? :=fun p=>by
  rw[ml,ml,kY];by_cases e1:j=p
  .subst e1;simp[Ao]
  by_cases e2:j+1=p
  .subst e2;have:¬(j+1=j):=aa;rw[if_neg e1,if_pos rfl,if_pos aa,if_neg this,if_pos rfl]
  rw[if_neg e1,if_neg e2,if_neg (fun h=>e1 h.symm),if_neg (fun h=>e2 h.symm)]
 refine⟨(swap_perm gJ hy).trans hp,⟨hj,aa,by simp;omega⟩,by rw[get];simp,?_,?_,?_⟩
 .intro p z h1 h2 hz;rw[get,if_neg aa] at hz;by_cases e:p=j+1
  .rw[if_pos e] at hz;cases hz;exact au
  rw[if_neg e] at hz;exact uC p z aa h2 hz
 .intro p q u v h0 h1 h2 h3 h4 hu hv;rw[get,if_neg h3] at hu;rw[get,if_neg h4] at hv;by_cases e:p=j+1
  .rw[if_pos e] at hu;cases hu;rw[if_neg aa] at hv;exact CB j q _ _ hj aa h2 aa aa hy hv
  rw[if_neg e] at hu;by_cases e2:q=j+1
  .rw[if_pos e2] at hv;cases hv;exact CB p j _ _ h0 aa aa e aa hu hy
  rw[if_neg e2] at hv;exact CB p q _ _ h0 h1 h2 e e2 hu hv
 intro p eF;rw[get,if_neg aa,if_neg aa,jD p eF]
theorem tS.stop{α:Type}{lt:α->α->Bool}{zs ws:List α}{x:α}{a i j:Nat}(o:Swo lt)(h:tS lt zs ws x a i j)(hj:j=a\/ ∃y,a<j/\ws[j-1]?=some y/\lt x y=false):tU lt ws a (i+1):=by
 obtain⟨hp,⟨hja,hle,hl⟩,gJ,uC,CB,jD⟩:=h;intro p q u v h0 h1 h2 hu hv;by_cases e:q=j
 .subst e;rw[gJ] at hv;cases hv;rcases hj with hj|⟨y,qP,hy,ql⟩
  .omega
  by_cases e3:p=q-1
  .subst e3;rw[hy] at hu;cases hu;exact ql
  exact o.ntrans _ _ _ (CB p (q-1) _ _ h0 aa aa aa aa hu hy) ql
 by_cases e2:p=j
 .subst e2;rw[gJ] at hu;cases hu;exact o.asym _ _ (uC q v h1 aa hv)
 exact CB p q u v h0 h1 aa e2 e hu hv
theorem tU.mono{α:Type}{lt:α->α->Bool}{ws:List α}{a b c:Nat}(h:tU lt ws a c)(hb:b<=c\/ws.length<=c):tU lt ws a b:=fun p q x y h0 h1 h2 hx hy=>h p q x y h0 h1 (by
 rcases hb with hb|hb
 .omega
 have:=(bn.1 hy).1;omega) hx hy
abbrev pG(a b:Int):Bool:=decide (a<b)
theorem Oh:Swo pG:=⟨fun a b h=>by simp at*;omega,fun a b c h k=>by simp at*;omega⟩
theorem IS{site ty z:Nat}{es:List (List PV)}{c:C}{blk:aw}(h:grown site ty z es (.one c) blk):(es=[]/\jG blk (.one c)=[])\/jG blk (.one c)=[site]:=by
 rcases h with ⟨h1,h2⟩|⟨h1,g,h2,h3⟩
 .cases h2;exact .inl ⟨h1,NR⟩
 cases h2;exact .inr (show jT blk 6 (.hsl site g z 0 es.length)=[site] from Di (n:=5) h3)
section
variable {al:Al} {Q:dF} {aj:Env} {blk:aw} {os:List aI} {d:Option Nat}
theorem Sz{f id ty z:Nat}{es:List (List PV)}{c:C}(ML:∀ {al:Al} {blk:aw},es=[]\/al.ok id=true->grown id ty z es (.one c) blk->∃v ak,fT S f [.one c] al blk v ak/\A9 id ty z es c blk v ak)(hs:S.sites f=[f])(hg:grown id ty z es (.one c) blk)(oid:al.ok id=true)(hf:al.fs.contains f=true)
  (hK:∀ak,grown id ty z es.reverse (.one c) ak->(∀i,i≠id->ak i=blk i)->RN S al os Q (put aj d (.tup [])) ak):gP S al (.sc f [.one c]) d os Q aj blk:=by
 refine rQ (P:=A9 id ty z es c blk) (holds_of ?_ ?_) (ML ?_ hg) ?_
 .show al.fi ([V.one c].map (jG blk)).flatten=true;rcases IS hg with ⟨_,h⟩|h
  .simp[h,Al.fi]
  simp[h,Al.fi,oid]
 .show(S.sites f).all al.fs.contains=true;rw[hs];simp only[tQ,vN,hf,Bo]
 .rcases IS hg with ⟨h,_⟩|h
  .exact .inl h
  exact .inr (vT (by simp[h]))
 rintro v ak ⟨rfl,h1,h2⟩
 exact hK ak h1 h2
end
theorem afC:S.sites 78=[78]:=ah
theorem afB:S.sites 79=[79]:=ah
theorem GM(ok:gU F ls){x:Nat}(h:x<nD ls):bR ls x<nD ls:=Jd ok.jA ok.hp h
abbrev nu(id:Nat):Prop:=kI id=51
structure FE (ls:List Let) (idS gS idB gB g8 gF:Nat) (sp:List Bool) (f:Fc) (cd cp cf:C) (blk:aw):Prop where
 bS:blk idS=(gS,some (.arr 4 1 (bP sp)))
 bB:blk idB=(gB,some (.arr 4 1 (bP (vZ ls))))
 b8:blk 3264000000=(g8,some (.var [.p (.bool false),.p .nils,.p .nils,.p .nils,.p (.bool false)]))
 bF:blk 3264128448=(gF,some (.var [.p (.bool f.eC),cd,cp,cf,.p (.bool f.outer)]))
 gd:grown 3264512256 3 1 (nP f.bX) (.one cd) blk
 gp:grown 3264896192 xz 2 (gQ f.places) (.one cp) blk
 gf:grown 3264896448 3 1 (nP f.rM) (.one cf) blk
theorem W7(ok:gU F ls){f:Fc}{x k:Nat}(hx:x<nD ls)(h:f.bX.length<=k/\f.places.length<=k*(2*F+2)/\f.rM.length<=k*(2*F+2)):(f.add F ls x).bX.length<=k+1/\(f.add F ls x).places.length<=(k+1)*(2*F+2)/\(f.add F ls x).rM.length<=(k+1)*(2*F+2):=by
 obtain⟨i1,i2,i3⟩:=h;rw[Nat.succ_mul];unfold Fc.add;by_cases h:x<2*ls.length
 .rw[if_pos h];simp only[iW,dN,fj];exact⟨aa,aa,aa⟩
 rw[if_neg h];have hj:(x-2*ls.length)/2<(aD ls).length:=by unfold nD at hx;omega
 have l1:=NA ok hj;have l2:=Nz ok hj;refine⟨by simp only;omega,?_,?_⟩
 .simp only[iW];split<;>(try rw[xO])<;>omega
 simp only[iW];split<;>(try rw[xO])<;>omega
theorem ZK{al:Al}(ok:gU F ls)(hF:F<=1000)(okf:∀id,nu id->al.ok id=true){idS gS idB gB g8 gF d:Nat}(oS:al.ok idS=true)(nS:¬nu idS)(nB:¬nu idB)(nSB:idS≠idB)(f1:al.fs.contains 78=true)(f2:al.fs.contains 79=true)(hd:d<2*ls.length){Q:dF}:
  ∀(fuel k x:Nat) (ff:List Bool) (f:Fc) (aj:Env) (blk:aw) (cd cp cf:C),aj 0=.one (.p (oJ F ls))->aj 2=.one (.hsl idS gS 1 0 (2*ls.length))->aj 8=.one (.aZ 3264000000 g8 0)->aj 9=vi ls.length->aj 10=vi (aD ls).length->aj 11=.one (.aZ 3264128448 gF 0)->aj 12=vi x->
   FE ls idS gS idB gB g8 gF (ff.take (2*ls.length)) f cd cp cf blk->ff.length=nD ls->x<nD ls->Inv (bR ls) (nD ls) d ff x->tO ff<fuel->(k+fuel<=5000000)->(f.bX.length<=k/\f.places.length<=k*(2*F+2)/\f.rM.length<=k*(2*F+2))->
   (∀aB ak rG kj rH,aB 8=aj 8->aB 11=aj 11->FE ls idS gS idB gB g8 gF ((ei (bR ls) fuel x ff).2.take (2*ls.length)) ((ei (bR ls) fuel x ff).1.foldl (Fc.add F ls) f) rG kj rH ak->(∀id,¬(nu id\/id=idS)->ak id=blk id)->Q .normal aB ak)->
   W S al (.loop i51_l1) (nO 0 Q) aj blk:=by
 have hl:=ok.hl;have gI:(aD ls).length<=1000000:=mm (pQ ls ls.length) hl;have jq:nD ls<=4000000:=by unfold nD;omega
 have m2:=mj (a:=ls.length) aa;have k0:al.ok 3264000000=true:=okf _ rfl;have kF:al.ok 3264128448=true:=okf _ rfl;have kd0:al.ok 3264512192=true:=okf _ rfl;have kd:al.ok 3264512256=true:=okf _ rfl;have kp:al.ok 3264896192=true:=okf _ rfl;have kf:al.ok 3264896448=true:=okf _ rfl;have kr1:al.ok 3264640128=true:=okf _ rfl;have kr2:al.ok 3264640129=true:=okf _ rfl;have hm:=maps ok;intro fuel
 induction fuel with
 |zero=>intro k x ff f aj blk cd cp cf _ _ _ _ _ _ _ _ _ _ _ h;omega
 |succ fuel ih=>
  intro k x ff f aj blk cd cp cf h0 h2 h8 h9 dK hJ jO hB yv qO hi hu hk hlen hq;have hle:=hm.le;obtain⟨l1,l2,l3⟩:=hlen;have aaF:k*(2*F+2)<=5000000*2002:=Nat.mul_le_mul aa aa;have yK:=W7 ok qO ⟨l1,l2,l3⟩;unfold ei at hq;have nSi:∀ {a:Nat},nu a->a≠idS:=fun h e=>nS (e▸h);have nBi:∀ {a:Nat},nu a->a≠idB:=fun h e=>nB (e▸h);have nF:¬(3264128448=idS):=nSi rfl;refine k8 ?_;cases hs:ff.getD x true with
  |true=>
   have hxd:=hi.i4 hs;have au:x<2*ls.length:=aa;have aF:((x:Int)<((2*ls.length:Nat):Int)):=aa;rw[hs] at hq;simp only[if_true] at hq;have hb:(ff.take (2*ls.length))[x]?=some true:=by
    have h1:=N5 au (show 2*ls.length<=ff.length by omega);rw[show sn ff x=true from hs,cP] at h1;have uD:x<(ff.take (2*ls.length)).length:=by rw[jt];omega
    obtain⟨b,hb⟩:=aL uD;rw[hb] at h1 ⊢;exact congrArg some h1
   have lB:=oF hb;simp only[go_sem,i51_l1,h0,h2,h9,jO,m2,aF,au,hB.bS,lB,oS];exact hq _ _ cd cp cf (by simp only[go_sem]) (by simp only[go_sem]) hB (fun _ _=>rfl)
  |false=>
   have CC:ff[x]?=some false:=by
    rw[cP] at hs;cases h1:ff[x]? with
    |none=>rw[h1] at hs;cases hs
    |some b=>rw[h1] at hs;exact congrArg some hs
   have yV:=GN CC;have pt:=Qi ok x (by unfold nD at qO;exact qO);have bU:=hi.step hm yv qO hs;rw[hs] at hq;simp only[iF,if_false,List.foldl_cons] at hq;by_cases yA:x<2*ls.length
   .have aF:((x:Int)<((2*ls.length:Nat):Int)):=aa;have hb:(ff.take (2*ls.length))[x]?=some false:=by rw[lQ,if_pos yA];exact CC
    have lB:=oF hb;have iT:=BQ (ff.take (2*ls.length)) x true;rw[V9] at iT;have aay:f.add F ls x={f with bX:=f.bX++[x]}:=by unfold Fc.add;rw[if_pos yA]
    simp only[go_sem,i51_l1,h2,h9,hJ,jO,m2,aF,yA,hB.bS,hB.bF,lB,iT,oS,kF,kd0,nF];refine HG (site:=3264512256) (id:=3264512256) (bytes:=8) (xs:=[[.int .i64 (x:Int)]]) (rd:=[3264512192]) (by simp[kd,kd0]) (hB.gd.of_eq ((aJ ae).trans (aJ (nSi rfl)))) (by simp[eK,aP]) (.inl rfl) (by simp only[cq,dN,fj];omega) fun c aN hc aS=>?_;have Cn:∀i,i≠3264512192->i≠3264512256->i≠idS->aN i=blk i:=fun i a b c=>(aS i b b).trans ((aJ a).trans (aJ c))
    have aaQ:=(aS idS (nSi rfl).symm (nSi rfl).symm).trans ((aJ (nSi rfl).symm).trans rn);have zV:=(Cn 3264128448 ae ae (nSi rfl)).trans hB.bF;simp only[go_sem,zV,h0,hJ,jO,kF,s76,Aa pt];refine ih (k+1) (bR ls x) (ff.set x true) (f.add F ls x) _ _ c cp cf ?_ ?_ ?_ ?_ ?_ ?_ ?_ ?_ (by rw[kY];exact yv) (GM ok qO) bU aa aa yK ?_
    .simp only[go_sem,h0]
    .simp only[go_sem,h2]
    .simp only[go_sem,h8]
    .simp only[go_sem,h9]
    .simp only[go_sem,dK]
    .simp only[go_sem,hJ]
    .simp only[go_sem]
    .rw[aay];refine⟨?_,?_,?_,rn,?_,?_,?_⟩
     .exact(aJ (nSi rfl).symm).trans aaQ
     .exact(aJ (nBi rfl).symm).trans ((Cn _ (nBi rfl).symm (nBi rfl).symm nSB.symm).trans hB.bB)
     .exact(aJ ae).trans ((Cn _ ae ae (nSi rfl)).trans hB.b8)
     .exact(CO _ _▸hc.of_eq (aJ ae))
     .exact(hB.gp.of_eq (Cn _ ae ae (nSi rfl))).of_eq (aJ ae)
     exact(hB.gf.of_eq (Cn _ ae ae (nSi rfl))).of_eq (aJ ae)
    intro aB ak rG kj rH q8 tK oZ bJ;refine hq aB ak rG kj rH (by rw[q8];simp only[go_sem]) (by rw[tK];simp only[go_sem]) oZ fun id hn=>?_;have a:∀y,nu y->id≠y:=fun y hy e=>hn (.inl (e▸hy));exact(bJ id hn).trans ((aJ (a _ rfl)).trans (Cn id (a _ rfl) (a _ rfl) fun e=>hn (.inr e)))
   have hj:(x-2*ls.length)/2<(aD ls).length:=by unfold nD at qO;omega
   have FX:=aeG ok hF hj;have lP:=NA ok hj;have lF:=Nz ok hj;have Fp:¬((x:Int)<((2*ls.length:Nat):Int)):=aa;have ws:=Oz (a:=x) (b:=2*ls.length) aa aa;have wq:=wrap_small (n:=(x-2*ls.length)/2) aa;have w2:=Bl (a:=(aD ls).length) aa aa;have HO:((((x-2*ls.length)/2:Nat):Int)==(((aD ls).length-1:Nat):Int))=decide ((x-2*ls.length)/2+1=(aD ls).length):=by
    by_cases h:(x-2*ls.length)/2+1=(aD ls).length
    .rw[decide_eq_true h];simp;omega
    rw[decide_eq_false h];simp;omega
   have jD:(f.add F ls x).outer=(f.outer||decide ((x-2*ls.length)/2+1=(aD ls).length)):=by unfold Fc.add;rw[if_neg yA]
   have Fe:(f.add F ls x).eC=f.eC:=by unfold Fc.add;rw[if_neg yA]
   have Fs:(f.add F ls x).bX=f.bX:=by unfold Fc.add;rw[if_neg yA]
   have AN:(f.add F ls x).places=f.places++(if x%2=0 then uN F ls ((x-2*ls.length)/2) else (uN F ls ((x-2*ls.length)/2)).reverse):=by unfold Fc.add;rw[if_neg yA]
   have yD:(f.add F ls x).rM=f.rM++(if x%2=0 then xy F ls ((x-2*ls.length)/2) else (xy F ls ((x-2*ls.length)/2)).reverse):=by unfold Fc.add;rw[if_neg yA]
   generalize f.add F ls x=f' at jD Fe Fs AN yD hq yK;have qn:S.lone 3264640128=false:=ah;have sc1:∀l:List (Nat×Nat),((gQ l).all fun e=>e.all PV.scalar)=true:=fun l=>by simp[PV.scalar]
   have sc2:∀l:List Nat,((nP l).all fun e=>e.all PV.scalar)=true:=fun l=>by simp[PV.scalar]
   have hnP:∀l:List (Nat×Nat),∀e∈gQ l,e.length=2/\ ∀v∈e,v.norm=v:=fun l e he=>by obtain⟨a,_,rfl⟩:=iX.1 he;exact⟨rfl,fun v hv=>by simp at hv;rcases hv with rfl|rfl<;>rfl⟩
   have hnF:∀l:List Nat,∀e∈nP l,e.length=1/\ ∀v∈e,v.norm=v:=fun l e he=>by obtain⟨a,_,rfl⟩:=iX.1 he;exact⟨rfl,fun v hv=>by simp at hv;rcases hv with rfl;rfl⟩
   have pI:S.shared 78=true:=ah;have shI:S.shared 79=true:=ah;have mE:(ff.set x true).take (2*ls.length)=ff.take (2*ls.length):=V8 aa;generalize uN F ls ((x-2*ls.length)/2)=PP at*;generalize xy F ls ((x-2*ls.length)/2)=FF at*;simp only[go_sem,i51_l1,h0,h9,jO,m2,Fp,ws,wq,dw,eo,s77];refine aak (by simp[kr1,kr2]) FX qn (sc1 _) (sc2 _) fun c e aW hc he hb=>?_;by_cases ek:x%2=0
   .have MG:((x:Int).tmod 2==1)=false:=by rw[gR,ek];rfl
    rw[if_pos ek] at AN yD;have hP:=hc;have hE:=he;have wR:∀i,i≠3264640128->i≠3264640129->aW i=blk i:=hb;have bFN:=(wR 3264128448 ae ae).trans hB.bF;simp only[go_sem,dw,MG,bFN,hJ,jO,kF];obtain⟨rP,hxP,AR⟩:=hP.elems;refine Hj (site:=3264896192) (id:=3264896192) (bytes:=16) (by rcases AR with rfl|rfl<;>simp[kp,kr1]) (hB.gp.of_eq (wR _ ae ae)) hxP hP.fR (by simp only[cq];omega) fun c2 nN r1 u1 qE jC de=>?_
    have zV:=(jC 3264128448 ae ae).trans bFN;simp only[go_sem,zV,hJ,kF];obtain⟨rE,hxE,AQ⟩:=(hE.of_eq (jC _ ae ae)).elems;refine Hj (site:=3264896448) (id:=3264896448) (bytes:=8) (by rcases AQ with rfl|rfl<;>simp[kf,kr2]) (hB.gf.of_eq ((jC _ ae ae).trans (wR _ ae ae))) hxE hE.fR (by simp only[cq];omega) fun c3 v8 r2 u2 Fj u7 og=>?_
    have vY:=(u7 3264128448 ae ae).trans zV;have dI:∀i,i≠3264640128->i≠3264640129->i≠3264896192->i≠3264896448->v8 i=blk i:=fun i a b c d=>(u7 i d d).trans ((jC i c c).trans (wR i a b));have Fi:grown 3264896192 xz 2 (gQ f'.places) (.one c2) v8:=by rw[AN,CY];exact qE.of_eq (u7 _ ae ae)
    have Fk:grown 3264896448 3 1 (nP f'.rM) (.one c3) v8:=by rw[yD,CO];exact Fj
    clear qE Fj;cases ho:f.outer with
    |true=>
     rw[ho] at vY;simp only[go_sem,vY,h0,hJ,jO,kF,s76,Aa pt];refine⟨?_,?_⟩
     .rcases AR with rfl|rfl<;>rcases AQ with rfl|rfl<;>rcases de with ⟨rfl,rfl⟩|⟨rfl,rfl⟩|⟨rfl,rfl⟩<;>rcases og with ⟨rfl,rfl⟩|⟨rfl,rfl⟩|⟨rfl,rfl⟩<;>kernel_rfl
     refine ih (k+1) (bR ls x) (ff.set x true) f' _ _ cd c2 c3 ?_ ?_ ?_ ?_ ?_ ?_ ?_ ?_ (by rw[kY];exact yv) (GM ok qO) bU aa aa yK ?_
     .simp only[go_sem,h0]
     .simp only[go_sem,h2]
     .simp only[go_sem,h8]
     .simp only[go_sem,h9]
     .simp only[go_sem,dK]
     .simp only[go_sem,hJ]
     .simp only[go_sem]
     .rw[mE];refine⟨?_,?_,?_,?_,?_,?_,?_⟩
      .exact(aJ (nSi rfl).symm).trans ((aJ (nSi rfl).symm).trans ((aJ (nSi rfl).symm).trans ((dI _ (nSi rfl).symm (nSi rfl).symm (nSi rfl).symm (nSi rfl).symm).trans hB.bS)))
      .exact(aJ (nBi rfl).symm).trans ((aJ (nBi rfl).symm).trans ((aJ (nBi rfl).symm).trans ((dI _ (nBi rfl).symm (nBi rfl).symm (nBi rfl).symm (nBi rfl).symm).trans hB.bB)))
      .exact(aJ ae).trans ((aJ ae).trans ((aJ ae).trans ((dI _ ae ae ae ae).trans hB.b8)))
      .rw[rn,Fe,jD,ho];rfl
      .rw[Fs];exact hB.gd.of_eq ((aJ ae).trans ((aJ ae).trans ((aJ ae).trans (dI _ ae ae ae ae))))
      .exact Fi.of_eq ((aJ ae).trans ((aJ ae).trans (aJ ae)))
      exact Fk.of_eq ((aJ ae).trans ((aJ ae).trans (aJ ae)))
     intro aB ak rG kj rH q8 tK oZ bJ;refine hq aB ak rG kj rH (by rw[q8];simp only[go_sem]) (by rw[tK];simp only[go_sem]) oZ fun id hn=>?_;have a:∀y,nu y->id≠y:=fun y hy e=>hn (.inl (e▸hy));exact(bJ id hn).trans ((aJ (a _ rfl)).trans ((aJ (a _ rfl)).trans ((aJ (a _ rfl)).trans (dI id (a _ rfl) (a _ rfl) (a _ rfl) (a _ rfl)))))
    |false=>
     rw[ho] at vY;simp only[go_sem,vY,h0,dK,hJ,jO,kF,w2,HO,s76,Aa pt];refine⟨?_,?_⟩
     .rcases AR with rfl|rfl<;>rcases AQ with rfl|rfl<;>rcases de with ⟨rfl,rfl⟩|⟨rfl,rfl⟩|⟨rfl,rfl⟩<;>rcases og with ⟨rfl,rfl⟩|⟨rfl,rfl⟩|⟨rfl,rfl⟩<;>kernel_rfl
     refine ih (k+1) (bR ls x) (ff.set x true) f' _ _ cd c2 c3 ?_ ?_ ?_ ?_ ?_ ?_ ?_ ?_ (by rw[kY];exact yv) (GM ok qO) bU aa aa yK ?_
     .simp only[go_sem,h0]
     .simp only[go_sem,h2]
     .simp only[go_sem,h8]
     .simp only[go_sem,h9]
     .simp only[go_sem,dK]
     .simp only[go_sem,hJ]
     .simp only[go_sem]
     .rw[mE];refine⟨?_,?_,?_,?_,?_,?_,?_⟩
      .exact(aJ (nSi rfl).symm).trans ((aJ (nSi rfl).symm).trans ((aJ (nSi rfl).symm).trans ((dI _ (nSi rfl).symm (nSi rfl).symm (nSi rfl).symm (nSi rfl).symm).trans hB.bS)))
      .exact(aJ (nBi rfl).symm).trans ((aJ (nBi rfl).symm).trans ((aJ (nBi rfl).symm).trans ((dI _ (nBi rfl).symm (nBi rfl).symm (nBi rfl).symm (nBi rfl).symm).trans hB.bB)))
      .exact(aJ ae).trans ((aJ ae).trans ((aJ ae).trans ((dI _ ae ae ae ae).trans hB.b8)))
      .rw[rn,Fe,jD,ho];rfl
      .rw[Fs];exact hB.gd.of_eq ((aJ ae).trans ((aJ ae).trans ((aJ ae).trans (dI _ ae ae ae ae))))
      .exact Fi.of_eq ((aJ ae).trans ((aJ ae).trans (aJ ae)))
      exact Fk.of_eq ((aJ ae).trans ((aJ ae).trans (aJ ae)))
     intro aB ak rG kj rH q8 tK oZ bJ;refine hq aB ak rG kj rH (by rw[q8];simp only[go_sem]) (by rw[tK];simp only[go_sem]) oZ fun id hn=>?_;have a:∀y,nu y->id≠y:=fun y hy e=>hn (.inl (e▸hy));exact(bJ id hn).trans ((aJ (a _ rfl)).trans ((aJ (a _ rfl)).trans ((aJ (a _ rfl)).trans (dI id (a _ rfl) (a _ rfl) (a _ rfl) (a _ rfl)))))
   have MG:((x:Int).tmod 2==1)=true:=by rw[gR,show x%2=1 by omega];rfl
   rw[if_neg ek] at AN yD;simp only[go_sem,dw,MG,jO,pI];refine Sz (f:=78) (fun o h=>aeF o (by simp only[cq];omega) (hnP _) h) afC hc kr1 f1 fun aN fC aS=>?_;simp only[go_sem,shI];refine Sz (f:=79) (fun o h=>aeE o (by simp only[cq];omega) (hnF _) h) afB (he.of_eq (aS _ ae)) kr2 f2 fun iG he1 jB=>?_;have hP:grown 3264640128 xz 2 (gQ PP.reverse) (.one c) iG:=by rw[gQ,List.map_reverse];exact fC.of_eq (jB _ ae)
   have hE:grown 3264640129 3 1 (nP FF.reverse) (.one e) iG:=by rw[nP,List.map_reverse];exact he1
   have wR:∀i,i≠3264640128->i≠3264640129->iG i=blk i:=fun i a b=>(jB i b).trans ((aS i a).trans (hb i a b));have bFN:=(wR 3264128448 ae ae).trans hB.bF;simp only[go_sem,bFN,hJ,kF];obtain⟨rP,hxP,AR⟩:=hP.elems;refine Hj (site:=3264896192) (id:=3264896192) (bytes:=16) (by rcases AR with rfl|rfl<;>simp[kp,kr1]) (hB.gp.of_eq (wR _ ae ae)) hxP hP.fR (by simp only[cq,xO];omega) fun c2 nN r1 u1 qE jC de=>?_
   have zV:=(jC 3264128448 ae ae).trans bFN;simp only[go_sem,zV,hJ,kF];obtain⟨rE,hxE,AQ⟩:=(hE.of_eq (jC _ ae ae)).elems;refine Hj (site:=3264896448) (id:=3264896448) (bytes:=8) (by rcases AQ with rfl|rfl<;>simp[kf,kr2]) (hB.gf.of_eq ((jC _ ae ae).trans (wR _ ae ae))) hxE hE.fR (by simp only[cq,xO];omega) fun c3 v8 r2 u2 Fj u7 og=>?_
   have vY:=(u7 3264128448 ae ae).trans zV;have dI:∀i,i≠3264640128->i≠3264640129->i≠3264896192->i≠3264896448->v8 i=blk i:=fun i a b c d=>(u7 i d d).trans ((jC i c c).trans (wR i a b));have Fi:grown 3264896192 xz 2 (gQ f'.places) (.one c2) v8:=by rw[AN,CY];exact qE.of_eq (u7 _ ae ae)
   have Fk:grown 3264896448 3 1 (nP f'.rM) (.one c3) v8:=by rw[yD,CO];exact Fj
   clear qE Fj;cases ho:f.outer with
   |true=>
    rw[ho] at vY;simp only[go_sem,vY,h0,hJ,jO,kF,s76,Aa pt];refine⟨?_,?_⟩
    .rcases AR with rfl|rfl<;>rcases AQ with rfl|rfl<;>rcases de with ⟨rfl,rfl⟩|⟨rfl,rfl⟩|⟨rfl,rfl⟩<;>rcases og with ⟨rfl,rfl⟩|⟨rfl,rfl⟩|⟨rfl,rfl⟩<;>kernel_rfl
    refine ih (k+1) (bR ls x) (ff.set x true) f' _ _ cd c2 c3 ?_ ?_ ?_ ?_ ?_ ?_ ?_ ?_ (by rw[kY];exact yv) (GM ok qO) bU aa aa yK ?_
    .simp only[go_sem,h0]
    .simp only[go_sem,h2]
    .simp only[go_sem,h8]
    .simp only[go_sem,h9]
    .simp only[go_sem,dK]
    .simp only[go_sem,hJ]
    .simp only[go_sem]
    .rw[mE];refine⟨?_,?_,?_,?_,?_,?_,?_⟩
     .exact(aJ (nSi rfl).symm).trans ((aJ (nSi rfl).symm).trans ((aJ (nSi rfl).symm).trans ((dI _ (nSi rfl).symm (nSi rfl).symm (nSi rfl).symm (nSi rfl).symm).trans hB.bS)))
     .exact(aJ (nBi rfl).symm).trans ((aJ (nBi rfl).symm).trans ((aJ (nBi rfl).symm).trans ((dI _ (nBi rfl).symm (nBi rfl).symm (nBi rfl).symm (nBi rfl).symm).trans hB.bB)))
     .exact(aJ ae).trans ((aJ ae).trans ((aJ ae).trans ((dI _ ae ae ae ae).trans hB.b8)))
     .rw[rn,Fe,jD,ho];rfl
     .rw[Fs];exact hB.gd.of_eq ((aJ ae).trans ((aJ ae).trans ((aJ ae).trans (dI _ ae ae ae ae))))
     .exact Fi.of_eq ((aJ ae).trans ((aJ ae).trans (aJ ae)))
     exact Fk.of_eq ((aJ ae).trans ((aJ ae).trans (aJ ae)))
    intro aB ak rG kj rH q8 tK oZ bJ;refine hq aB ak rG kj rH (by rw[q8];simp only[go_sem]) (by rw[tK];simp only[go_sem]) oZ fun id hn=>?_;have a:∀y,nu y->id≠y:=fun y hy e=>hn (.inl (e▸hy));exact(bJ id hn).trans ((aJ (a _ rfl)).trans ((aJ (a _ rfl)).trans ((aJ (a _ rfl)).trans (dI id (a _ rfl) (a _ rfl) (a _ rfl) (a _ rfl)))))
   |false=>
    rw[ho] at vY;simp only[go_sem,vY,h0,dK,hJ,jO,kF,w2,HO,s76,Aa pt];refine⟨?_,?_⟩
    .rcases AR with rfl|rfl<;>rcases AQ with rfl|rfl<;>rcases de with ⟨rfl,rfl⟩|⟨rfl,rfl⟩|⟨rfl,rfl⟩<;>rcases og with ⟨rfl,rfl⟩|⟨rfl,rfl⟩|⟨rfl,rfl⟩<;>kernel_rfl
    refine ih (k+1) (bR ls x) (ff.set x true) f' _ _ cd c2 c3 ?_ ?_ ?_ ?_ ?_ ?_ ?_ ?_ (by rw[kY];exact yv) (GM ok qO) bU aa aa yK ?_
    .simp only[go_sem,h0]
    .simp only[go_sem,h2]
    .simp only[go_sem,h8]
    .simp only[go_sem,h9]
    .simp only[go_sem,dK]
    .simp only[go_sem,hJ]
    .simp only[go_sem]
    .rw[mE];refine⟨?_,?_,?_,?_,?_,?_,?_⟩
     .exact(aJ (nSi rfl).symm).trans ((aJ (nSi rfl).symm).trans ((aJ (nSi rfl).symm).trans ((dI _ (nSi rfl).symm (nSi rfl).symm (nSi rfl).symm (nSi rfl).symm).trans hB.bS)))
     .exact(aJ (nBi rfl).symm).trans ((aJ (nBi rfl).symm).trans ((aJ (nBi rfl).symm).trans ((dI _ (nBi rfl).symm (nBi rfl).symm (nBi rfl).symm (nBi rfl).symm).trans hB.bB)))
     .exact(aJ ae).trans ((aJ ae).trans ((aJ ae).trans ((dI _ ae ae ae ae).trans hB.b8)))
     .rw[rn,Fe,jD,ho];rfl
     .rw[Fs];exact hB.gd.of_eq ((aJ ae).trans ((aJ ae).trans ((aJ ae).trans (dI _ ae ae ae ae))))
     .exact Fi.of_eq ((aJ ae).trans ((aJ ae).trans (aJ ae)))
     exact Fk.of_eq ((aJ ae).trans ((aJ ae).trans (aJ ae)))
    intro aB ak rG kj rH q8 tK oZ bJ;refine hq aB ak rG kj rH (by rw[q8];simp only[go_sem]) (by rw[tK];simp only[go_sem]) oZ fun id hn=>?_;have a:∀y,nu y->id≠y:=fun y hy e=>hn (.inl (e▸hy));exact(bJ id hn).trans ((aJ (a _ rfl)).trans ((aJ (a _ rfl)).trans ((aJ (a _ rfl)).trans (dI id (a _ rfl) (a _ rfl) (a _ rfl) (a _ rfl)))))
structure cS (F:Nat) (ls:List Let):Prop where
 ok:gU F ls
 len:ls.length<=400
 cr:aA Let.aC ls<=200
 fing:F<=40
 ne:ls≠[]
 first:∃l,ls[0]?=some l/\l.aG=true
 even:aA Let.aG ls%2=0
 bad:∀l∈ls,cV F l=false
 chk:jN F ls=0
 nw:sj ls=aA Let.aG ls+aA Let.aC ls/2+2
theorem ZX{f:Int}(h:jN f ls=0)(aR:ls≠[]):∃F:Nat,f=(F:Int)/\cS F ls:=by
 have h0:=h;unfold jN at h;by_cases h1:400<ls.length\/200<aA Let.aC ls
 .rw[if_pos h1] at h;cases h
 rw[if_neg h1] at h;by_cases h2:f<0\/40<f
 .rw[if_pos h2] at h;cases h
 rw[if_neg h2,if_neg aR] at h;cases hv:jH f ls with
 |false=>rw[hv] at h;simp at h
 |true=>
  obtain⟨F,rfl⟩:=nG (show 0<=f by omega);refine⟨F,rfl,?_⟩;unfold jH at hv;simp only[cA] at hv;obtain⟨⟨⟨v1,v2⟩,v3⟩,v4⟩:=hv;obtain⟨aQ,l9,fD⟩:=Ik.1 v3;have lA:∀l∈ls,cV F l=false:=fun l hl=>by simpa using zD.1 aQ l hl
  have hg:mw F ls:=fun l hl hp=>((vz hp).1 (lA l hl)).1.1.1;obtain⟨g1,g2⟩:=(Dh hg).1 l9;obtain⟨l0,mA⟩:=aL (nH.2 aR);rw[mA] at v1;exact⟨⟨aa,⟨g1,g2⟩,fD,fun l hl=>yd (lA l hl)⟩,aa,aa,aa,aR,⟨l0,mA,v1⟩,by simpa using v2,lA,h0,by simpa using v4⟩
def R7(F:Nat)(ls:List Let)(idS gS:Nat)(x:Nat)(ff:List Bool)(blk:aw)(v:V)(ak:aw):Prop:=
 ∃f cd cp cf,f=((ei (bR ls) (nD ls+1) x ff).1).foldl (Fc.add F ls) (Fc.new ls x)/\v=.agg [.p (.bool f.eC),cd,cp,cf,.p (.bool f.outer)]/\ak idS=(gS,some (.arr 4 1 (bP ((ei (bR ls) (nD ls+1) x ff).2.take (2*ls.length)))))/\
  grown 3264512256 3 1 (nP f.bX) (.one cd) ak/\grown 3264896192 xz 2 (gQ f.places) (.one cp) ak/\grown 3264896448 3 1 (nP f.rM) (.one cf) ak/\Kept (fun id=>nu id\/id=idS) blk ak
theorem ZO{al:Al}{F:Nat}{ls:List Let}(ok:gU F ls)(hF:F<=1000)(okf:∀id,nu id->al.ok id=true){idS gS idB gB x:Nat}(oS:al.ok idS=true)(oB:al.ok idB=true)(nS:¬nu idS)(nB:¬nu idB)(nSB:idS≠idB)(f1:al.fs.contains 78=true)(f2:al.fs.contains 79=true){ff:List Bool}{blk:aw}
  (hx:x<2*ls.length) (yv:ff.length=nD ls) (ef:DO (bR ls) (nD ls) ff) (hs:ff.getD x true=false) (bS:blk idS=(gS,some (.arr 4 1 (bP (ff.take (2*ls.length)))))) (bB:blk idB=(gB,some (.arr 4 1 (bP (vZ ls))))):
  ∃v ak,fT S 51 [.one (.p (oJ F ls)),vi x,.one (.hsl idS gS 1 0 (2*ls.length)),.one (.hsl idB gB 1 0 ls.length)] al blk v ak/\R7 F ls idS gS x ff blk v ak:=by
 have hl:=ok.hl;have gI:(aD ls).length<=ls.length:=pQ ls ls.length;have jq:nD ls<=4000000:=by unfold nD;omega
 have k0:al.ok 3264000000=true:=okf _ rfl;have kF:al.ok 3264128448=true:=okf _ rfl;have wq:=wrap_small (n:=x/2) aa;have xj:x/2<ls.length:=aa;have aaE:=oF (X2 xj);have nSi:∀ {a:Nat},nu a->a≠idS:=fun h e=>nS (e▸h);have nBi:∀ {a:Nat},nu a->a≠idB:=fun h e=>nB (e▸h);have nB0:¬(idB=3264000000):=fun e=>nBi rfl e.symm
 have hul:=Dy ff;refine lf c51 (fy rfl) ?_;simp only[go_sem,i51,bB,nB0,k0,kF,oB,dw,eo,wq,xj,aaE];refine⟨ay,?_⟩;refine ZK ok hF okf (idS:=idS) (gS:=gS) (idB:=idB) (gB:=gB) (g8:=(blk 3264000000).1+1) (gF:=(blk 3264128448).1+1) (d:=x) oS nS nB nSB f1 f2 hx (nD ls+1) 0 x ff (Fc.new ls x) _ _ (.p .nils) (.p .nils) (.p .nils) ?_ ?_ ?_ ?_ ?_ ?_ ?_ ?_ yv (by unfold nD;omega) (Inv.start ef hs) aa aa ⟨bo _,bc _,bc _⟩ ?_
 .simp only[go_sem]
 .simp only[go_sem]
 .simp only[go_sem]
 .simp only[go_sem]
 .simp only[go_sem]
 .simp only[go_sem]
 .simp only[go_sem]
 .refine⟨?_,?_,?_,?_,grown.nil,grown.nil,grown.nil⟩
  .simp only[aJ (nSi (a:=3264000000) rfl).symm,aJ (nSi (a:=3264128448) rfl).symm,bS]
  .simp only[aJ (nBi (a:=3264000000) rfl).symm,aJ (nBi (a:=3264128448) rfl).symm,bB]
  .simp only[go_sem]
  simp only[go_sem,Fc.new]
 intro aB ak rG kj rH q8 tK oZ bJ;simp only[go_sem] at q8 tK;have h8:=oZ.b8;have hf:=oZ.bF;simp only[go_sem,i51_r2,q8,tK,h8,hf,k0,kF];refine⟨_,rG,kj,rH,rfl,rfl,?_,?_,?_,?_,fun id hn=>?_⟩
 .exact(aJ (nSi rfl).symm).trans oZ.bS
 .exact oZ.gd.of_eq (aJ ae)
 .exact oZ.gp.of_eq (aJ ae)
 .exact oZ.gf.of_eq (aJ ae)
 have a:∀y,nu y->id≠y:=fun y hy e=>hn (.inl (e▸hy));refine(aJ (a _ rfl)).trans ((bJ id hn).trans ?_);simp only[aJ (a 3264000000 rfl),aJ (a 3264128448 rfl)]
theorem gY{s1 t1 z1:Nat}{es:List (List PV)}{c:C}{x:PV}{blk:aw}(h:grown s1 t1 z1 es (.one c) blk):ji blk (.tup [.one c,.one (.p x)])=some (.tup [.one (bg t1 z1 es),.one (.p x)]):=by obtain⟨c',o,hc,h2,h3⟩:=h.jF;cases hc;rcases h3 with rfl|rfl<;>simp[ji,qB,sX,lX,kV,h2,(show Go.Abs.jF blk (.p x)=some (.p x,[],[]) from rfl),apart,tM,qq,zo]
theorem NQ{blk:aw}{id g g0 z o l ty sz:Nat}{es:List (List PV)}(h:blk id=(g0,some (.arr ty sz es))):jG blk (.one (.hsl id g z o l))=[id]:=(Di h:jT blk 6 (.hsl id g z o l)=[id])
theorem afy:(S.sites 51).contains 51=true:=ah
theorem afz:(S.sites 51).contains 78=true:=ah
theorem afA:(S.sites 51).contains 79=true:=ah
theorem V7{S:List Bool}{n k:Nat}{b:Bool}(hk:k<n)(hn:n<=S.length)(h:S.getD k true=b):(S.take n)[k]?=some b:=by rw[lQ,if_pos hk];rw[cP] at h;obtain⟨c,hc⟩:=aL (show k<S.length by omega);rw[hc] at h ⊢;exact congrArg some h
theorem ZQ(g:cS F ls):aE S 32 [eQ F ls] (.tup [.one (bg u6 5 (kr (cX F ls))),.one (.p (.int .i64 0))]):=by
 have ok:=g.ok;have hl:=ok.hl;have hF:F<=1000:=by have:=g.fing;omega
 have gI:(aD ls).length<=ls.length:=pQ ls ls.length;have hlen:=g.len;have jq:nD ls<=4000000:=by unfold nD;omega
 have h2n:2*ls.length<=nD ls:=by unfold nD;omega
 have pr:=Vb F ls hl;rw[IT g.chk,if_neg g.ne,oE] at pr;have pb:=X5 ok;have hm:=maps ok;have m2:=mj (a:=ls.length) aa;have jE:2*ls.length<=140737488355328:=aa;have AS:List.replicate (2*ls.length) [PV.bool false]=bP ((cR (bR ls) (nD ls) 0).2.take (2*ls.length)):=by show _=bP ((List.replicate (nD ls) false).take (2*ls.length));rw[List.take_replicate,Bw h2n];simp
 have hLB:∀blk:aw,land blk [] 2048384064 ((RV.one (.own 4 1 (bP (vZ ls)))).fx (S.lone 2048384064))=some (.one (.hsl 2048384064 ((blk 2048384064).1+1) 1 0 ls.length),[(2048384064,((blk 2048384064).1+1,some (.arr 4 1 (bP (vZ ls)))))]):=by intro blk;rw[show S.lone 2048384064=false by kernel_rfl];show some (V.one (.hsl 2048384064 ((blk 2048384064).1+1) 1 0 (bP (vZ ls)).length),_)=_;rw[show(bP (vZ ls)).length=ls.length by simp[pR]];rfl
 have dY:S.shared 51=true:=ah;refine bd c32 ?_;simp only[go_sem,i32,s43,cN pr fE,s50,cN pb (hLB _),m2,jE,AS];refine ck (fun k aj blk=>aj 4=.one (.p (oJ F ls))/\aj 7=.one (.hsl 2048320448 1 1 0 (2*ls.length))/\aj 8=.one (.hsl 2048384064 1 1 0 ls.length)/\aj 29=vi ((2*ls.length:Nat):Int)/\aj 30=vi k/\
   blk 2048320448=(1,some (.arr 4 1 (bP ((cR (bR ls) (nD ls) k).2.take (2*ls.length)))))/\blk 2048384064=(1,some (.arr 4 1 (bP (vZ ls))))/\
   ∃vo,aj 6=.one vo/\grown 2048704448 u6 5 (kr ((cR (bR ls) (nD ls) k).1.map (lW F ls))) (.one vo) blk) 0 (2*ls.length) (bc _) ?_ ?_
 .simp only[go_sem];first|exact⟨rfl,rfl,rfl,_,rfl,.inl ⟨rfl,rfl⟩⟩|exact⟨rfl,rfl,_,rfl,.inl ⟨rfl,rfl⟩⟩|exact⟨rfl,_,rfl,.inl ⟨rfl,rfl⟩⟩|exact⟨rfl,rfl,rfl,rfl,_,rfl,.inl ⟨rfl,rfl⟩⟩
 rintro k aj blk hk ⟨h4,h7,h8,h29,h30,bS,bB,vo,h6,go⟩
 by_cases au:k<2*ls.length
 .have aF:((k:Int)<((2*ls.length:Nat):Int)):=aa;have w1:=bj (n:=k) aa;obtain⟨ef,_⟩:=Jg hm k aa;have Mx:=Bh (bR ls) (nD ls) k;have yP:=GR (bR ls) (nD ls) k;have bU:=uR (bR ls) (nD ls) k;generalize hw:cR (bR ls) (nD ls) k=st at*;obtain⟨o,ff⟩:=st;simp only at ef Mx yP bS go;unfold rq at bU;cases hs:ff.getD k true with
  |true=>simp only[hs,if_true] at bU;have hb:=oF (V7 au aa hs);simp only[go_sem,i32_l1,h4,h6,h7,h8,h29,h30,bS,bB,au,aF,hb,w1,bU];exact⟨vo,rfl,go⟩
  |false=>
   simp only[hs,iF,if_false,Mx] at bU;have hb:=oF (V7 au aa hs);obtain⟨t,ht⟩:=Wn (bR ls) (k:=nD ls) hs;have tx:((ei (bR ls) (nD ls+1) k ff).1).foldl (Fc.add F ls) (Fc.new ls k)=lW F ls (ei (bR ls) (nD ls+1) k ff).1:=by unfold lW;rw[ht];rfl
   have eS:=ZM (F:=F) (t:=t) au;rw[<- ht] at eS;simp only[go_sem,i32_l1,h4,h6,h7,h8,h29,h30,bS,bB,au,aF,hb,dY];have Td:jG blk (.one (.hsl 2048320448 1 1 0 (2*ls.length)))=[2048320448]:=NQ bS;have F1:jG blk (.one (.hsl 2048384064 1 1 0 ls.length))=[2048384064]:=NQ bB;refine rQ (P:=R7 F ls 2048320448 1 k ff blk) xg (ZO ok hF (fun id h=>DU (by rw[h];exact afy)) (vT ?_) (vT ?_) ae ae ae ?_ ?_ au Mx ef hs bS bB) ?_
   .simp only[dE,kb,Td,F1];simp
   .simp only[dE,kb,Td,F1];simp
   .exact afz
   .exact afA
   rintro v aW ⟨f,cd,cp,cf,hf,rfl,bS1,gd,gp,gf,bJ⟩
   rw[tx] at hf;rw[<- hf] at eS;have DY:=(bJ 2048384064 ae).trans bB;have go1:=go.of_eq (bJ 2048704448 ae);have jD:kr (o.map (lW F ls))++[f.ps]=kr ((cR (bR ls) (nD ls) (k+1)).1.map (lW F ls)):=by rw[bU,hf];simp
   have hS2:(cR (bR ls) (nD ls) (k+1)).2=(ei (bR ls) (nD ls+1) k ff).2:=by rw[bU]
   have abm:(kr (o.map (lW F ls))).length<=k:=by simpa using yP
   generalize kr (o.map (lW F ls))=outs at go1 jD abm;have gd0:=gd;rcases gd with ⟨e,_⟩|⟨_,gg,e,fq⟩
   .simp at e;exact absurd e eS
   cases e;simp only[go_sem];rw[cq] at gd0;obtain⟨fr,hx,tv,u9⟩:=Zh (blk:=ca aW 2048704384 ((aW 2048704384).1+1,some (.fO u6 5 [[.p (.bool f.eC),.hsl 3264512256 gg 1 0 f.bX.length,cp,cf,.p (.bool f.outer)]]))) (s:=2048704384) rn (gd0.of_eq (aJ ae)) (gp.of_eq (aJ ae)) (gf.of_eq (aJ ae));have nf:∀i,i≠3264512256->i≠3264896192->i≠3264896448->i∉fr:=fun i a b c h=>by
    rcases u9 i h with h|h|h
    .exact a h
    .exact b h
    exact c h
   refine aaj (site:=2048704448) (id:=2048704448) (bytes:=88) (go1.of_eq (aJ ae)) hx tv (nf _ ae ae ae) (nf _ ae ae ae) (.inl rfl) (by simp only[dN,fj];omega) fun c aN hc aS=>?_;have BS':=(aS 2048320448 ae ae (nf _ ae ae ae)).trans ((aJ ae).trans bS1);have BB':=(aS 2048384064 ae ae (nf _ ae ae ae)).trans ((aJ ae).trans DY);simp only[go_sem,h4,h6,h7,h8,h29,h30,BS',BB',w1,au,hS2];refine⟨c,rfl,?_⟩;rw[<- jD];exact hc
 have:k=2*ls.length:=aa;subst this;simp only[go_sem,i32_l1,i32_r2,h6,h29,h30,dT];have:=Ov hm (nD ls) h2n (bo _);unfold cX lN;rw[this];exact gY go
structure Pc where
 l:Let
 d:Bool
def Pc.ps(p:Pc):List PV:=[.int .i64 p.l.kind,.int .i64 p.l.gate,.int .i64 p.l.aO,.int .i64 p.l.id,.int .i64 p.l.sign,.bool p.l.over,.bool p.d]
abbrev aX(o:List Pc):List (List PV):=o.map Pc.ps
abbrev fZ:Nat:=74
def iK:Let:=⟨0,0,0,0,0,false⟩
def pieces(ls:List Let):List Pc:=(List.range ls.length).map fun i=>⟨ls.getD i iK,ko ls i⟩
theorem eI(ls:List Let):(pieces ls).length=ls.length:=by simp[pieces]
theorem ss{i:Nat}{l:Let}(h:ls[i]?=some l):(pieces ls)[i]?=some ⟨l,ko ls i⟩:=by have:=(bn.1 h).1;simp only[pieces,js,rz this,kM,cP,h,kL]
theorem fM{o:List Pc}{k:Nat}{p:Pc}(h:o[k]?=some p):(aX o)[k]?=some p.ps:=by simp[h]
def kX(L:List Nat)(ds:List Nat)(v:Nat):List Nat:=ds.foldl (fun L d=>L.set d v) L
def me:List Fc->Nat->List Nat->List Nat
 |[],_,L=>L
 |f::r,j,L=>me r (j+1) (kX L f.bX j)
def fQ(F:Nat)(ls:List Let):List Nat:=me (cX F ls) 0 (List.replicate (2*ls.length) 0)
theorem GA(L ds:List Nat)(v:Nat):(kX L ds v).length=L.length:=by
 induction ds generalizing L with
 |nil=>rfl
 |cons d ds ih=>show(kX (L.set d v) ds v).length=_;rw[ih];simp
theorem aeU(L a b:List Nat)(v:Nat):kX L (a++b) v=kX (kX L a v) b v:=by simp[kX]
theorem Ij(fs:List Fc):∀(j:Nat) (L:List Nat),(me fs j L).length=L.length:=by
 induction fs with
 |nil=>intro j L;rfl
 |cons f r ih=>intro j L;show(me r (j+1) _).length=_;rw[ih,GA]
theorem acr(a:List Fc)(f:Fc):∀(j:Nat) (L:List Nat),me (a++[f]) j L=kX (me a j L) f.bX (j+a.length):=by
 induction a with
 |nil=>intro j L;rfl
 |cons g r ih=>intro j L;show me (r++[f]) (j+1) _=_;rw[ih];simp[me];congr 1;omega
theorem W5(F:Nat)(ls:List Let):∀(w:List Nat) (f:Fc),(w.foldl (Fc.add F ls) f).bX=f.bX++w.filter (fun x=>decide (x<2*ls.length)):=by
 intro w
 induction w with
 |nil=>intro f;simp
 |cons x w ih=>
  intro f;rw[List.foldl_cons,ih];unfold Fc.add;by_cases h:x<2*ls.length
  .rw[if_pos h,List.filter_cons_of_pos (by simpa using h)];simp
  rw[if_neg h,List.filter_cons_of_neg (by simpa using h)]
theorem B5(F:Nat)(ls:List Let)(w:List Nat):(lW F ls w).bX=w.filter (fun x=>decide (x<2*ls.length)):=by unfold lW;rw[W5];rfl
theorem L6{f:Fc}(h:f∈cX F ls):∀d∈f.bX,d<2*ls.length:=by
 obtain⟨w,_,rfl⟩:=iX.1 h;intro d hd;rw[B5] at hd
 simpa using (xP.1 hd).2
theorem L7(ok:gU F ls){f:Fc}(h:f∈cX F ls):f.bX.length<=nD ls:=by obtain⟨w,hw,rfl⟩:=iX.1 h;rw[B5];exact mm (List.length_filter_le _ _) (Jh ok w hw).2.1
theorem R6(F:Nat)(ls:List Let):(cX F ls).length=sj ls:=by simp[cX,sj]
theorem EF{o:List Fc}{k:Nat}{p:Fc}(h:o[k]?=some p):(kr o)[k]?=some p.ps:=by simp[h]
abbrev cE(F:Nat)(ls:List Let):PV:=.box [.int .i64 F,.sl (aX (pieces ls)),.sl (kr (cX F ls)),.sl (nP (fQ F ls)),.int .i64 (aA Let.aG ls:Nat),.int .i64 ((aA Let.aC ls/2:Nat):Int),.sl (nP (counts ls F))]
abbrev Eb(F:Nat)(ls:List Let)(pc cf:C):List C:=[.p (.int .i64 F),pc,cf,.hsl 1088256448 1 1 0 (2*ls.length),.p (.int .i64 (aA Let.aG ls:Nat)),.p (.int .i64 ((aA Let.aC ls/2:Nat):Int)),.hsl 1088256960 1 1 0 (F+1)]
theorem adb{F:Nat}{ls:List Let}(g:cS F ls){pc cf:C}{aj:Env}{blk:aw}{Q:dF}(h4:aj 4=.one cf)(h6:aj 6=.one (.aZ 1088257088 1 0))
  (bB:blk 1088257088=(1,some (.var (Eb F ls pc cf)))) (bL:blk 1088256448=(1,some (.arr 3 1 (nP (List.replicate (2*ls.length) 0))))) (bC:blk 1088256960=(1,some (.arr 3 1 (nP (counts ls F))))) (gp:grown 1088896448 fZ 7 (aX (pieces ls)) (.one pc) blk) (gf:grown 1088064064 u6 5 (kr (cX F ls)) (.one cf) blk)
  (hq:∀aB ak,aB 6=aj 6->ak 1088257088=(1,some (.var (Eb F ls pc cf)))->ak 1088256448=(1,some (.arr 3 1 (nP (fQ F ls))))->ak 1088256960=(1,some (.arr 3 1 (nP (counts ls F))))->grown 1088896448 fZ 7 (aX (pieces ls)) (.one pc) ak->grown 1088064064 u6 5 (kr (cX F ls)) (.one cf) ak->W S .all i17_r5 Q aB ak):
  W S .all i17_r6 Q aj blk:=by
 have ok:=g.ok;have hl:=ok.hl;have hlen:=g.len;have gI:(aD ls).length<=ls.length:=pQ ls ls.length;have jq:nD ls<=4000000:=by unfold nD;omega
 have qH:(cX F ls).length<=nD ls:=by rw[cX,cq];exact GR (bR ls) (nD ls) _
 obtain⟨g0,Mp⟩:∃gg,cf=.hsl 1088064064 gg 5 0 (cX F ls).length:=by
  rcases gf with ⟨e,_⟩|⟨_,gg,e,hb⟩
  .have h1:(cX F ls).length=0:=by simpa using congrArg List.length e
   rw[R6,g.nw] at h1;omega
  cases e;exact⟨gg,by rw[cq]⟩
 have uo:=h4;rw[Mp] at uo;simp only[go_sem,i17_r6,uo];refine ck (fun k aB ak=>aB 6=aj 6/\aB 78=.one cf/\aB 79=vi (cX F ls).length/\aB 80=vi k/\ak 1088257088=(1,some (.var (Eb F ls pc cf)))/\ak 1088256448=(1,some (.arr 3 1 (nP (me ((cX F ls).take k) 0 (List.replicate (2*ls.length) 0)))))/\ak 1088256960=(1,some (.arr 3 1 (nP (counts ls F))))/\
   grown 1088896448 fZ 7 (aX (pieces ls)) (.one pc) ak/\grown 1088064064 u6 5 (kr (cX F ls)) (.one cf) ak) 0 (cX F ls).length (bc _) ?_ ?_
 .simp only[go_sem,bB,bL,bC,me,Mp];exact⟨rfl,gp,by first|exact gf|(rw[<- Mp];exact gf)⟩
 rintro k aB ak hk ⟨q6,h78,h79,h80,bB,bL,bC,gp,gf⟩
 rw[h6] at q6;by_cases au:k<(cX F ls).length
 .have aF:((k:Int)<((cX F ls).length:Int)):=aa;obtain⟨f,hf⟩:=aL au;have rZ:=EF hf;have vk:=ba hf;have Cl:=L7 ok vk;have hdd:=L6 vk;have w1:=bj (n:=k) aa;have mE:me ((cX F ls).take (k+1)) 0 (List.replicate (2*ls.length) 0)=kX (me ((cX F ls).take k) 0 (List.replicate (2*ls.length) 0)) f.bX k:=by
   rw[lR,hf];show me (_++[f]) 0 _=_;rw[acr,jt,Bw aa,kZ]
  have hLl:(me ((cX F ls).take k) 0 (List.replicate (2*ls.length) 0)).length=2*ls.length:=by rw[Ij,List.length_replicate]
  generalize me ((cX F ls).take k) 0 (List.replicate (2*ls.length) 0)=L at bL mE hLl;obtain⟨gg,qF,bf⟩:∃gg,cf=.hsl 1088064064 gg 5 0 (kr (cX F ls)).length/\ak 1088064064=(gg,some (.arr u6 5 (kr (cX F ls)))):=by
   rcases gf with ⟨e,_⟩|⟨_,gg,e,hb⟩
   .have:(cX F ls).length=0:=by simpa using congrArg List.length e
    omega
   cases e;exact⟨gg,rfl,hb⟩
  rw[cq] at qF;have Ml:=h78;rw[qF] at Ml;simp only[go_sem,i17_l4,Ml,h79,h80,bf,rZ,Fc.ps,au,aF];refine ck (fun j bH aN=>bH 6=.one (.aZ 1088257088 1 0)/\bH 11=vi k/\bH 78=.one cf/\bH 79=vi (cX F ls).length/\bH 80=vi k/\bH 86=.one (.p (.sl (nP f.bX)))/\bH 87=vi f.bX.length/\bH 88=vi j/\
   aN 1088257088=(1,some (.var (Eb F ls pc cf)))/\aN 1088256448=(1,some (.arr 3 1 (nP (kX L (f.bX.take j) k))))/\aN 1088256960=(1,some (.arr 3 1 (nP (counts ls F))))/\grown 1088896448 fZ 7 (aX (pieces ls)) (.one pc) aN/\grown 1088064064 u6 5 (kr (cX F ls)) (.one cf) aN) 0 f.bX.length (bc _) ?_ ?_
  .simp only[go_sem,q6,qF,Ml,h79,h80,bB,bL,bC,kX,List.foldl_nil];refine⟨rfl,gp.of_eq (aJ ae),?_⟩;first|exact gf.of_eq (aJ ae)|(rw[<- qF];exact gf.of_eq (aJ ae))
  rintro j bH aN hj ⟨p6,p11,p78,p79,p80,p86,p87,p88,cB,cL,cC,cp,cg⟩
  by_cases pz:j<f.bX.length
  .have w7:((j:Int)<(f.bX.length:Int)):=aa;obtain⟨d,hd⟩:=aL pz;have nY:=fv hd;have hdb:=hdd d (ba hd);have w2:=bj (n:=j) aa;have iT:(kX L (f.bX.take j) k).set d k=kX L (f.bX.take (j+1)) k:=by rw[lR,hd,aeU];rfl
   have eP:=CP (kX L (f.bX.take j) k) d k;rw[iT] at eP;obtain⟨v0,hv0⟩:=aL (ls:=kX L (f.bX.take j) k) (k:=d) (by rw[GA,hLl];exact hdb);have hv:=fv hv0;simp only[go_sem,i17_l2,p6,p11,p78,p79,p80,p86,p87,p88,cB,cL,cC,pz,w7,nY,hdb,hv,eP,w2];exact⟨cp.of_eq (aJ ae),cg.of_eq (aJ ae)⟩
  have:j=f.bX.length:=aa;subst this;rw[ke,<- mE] at cL;simp only[go_sem,i17_l2,i17_r3,p6,p78,p79,p80,p87,p88,cB,cL,cC,dT,w1,au,h6];exact⟨cp,cg⟩
 have:k=(cX F ls).length:=aa;subst this;rw[ke] at bL;simp only[go_sem,i17_l4,h79,h80,dT];exact hq _ _ (by simp only[go_sem,q6,h6]) bB bL bC gp gf
theorem UC(g:cS F ls):aE S 17 [eQ F ls] (tN (cE F ls) (.int .i64 0)):=by
 have ok:=g.ok;have hl:=ok.hl;have hlen:=g.len;have o0:=g.fing;have pf:=ZQ g;have pps:=Ns F ls hl;have pcs:=P9 F ls hl;have lo:S.lone 1088064064=false:=ah;have m2:=mj (a:=ls.length) aa;have wF:=bj (n:=F) aa;have r1:2*ls.length*8<=140737488355328:=aa;have r2:(F+1)*8<=140737488355328:=aa;have e1:List.replicate (2*ls.length) [PV.int .i64 0]=nP (List.replicate (2*ls.length) 0):=af;have e2:List.replicate (F+1) [PV.int .i64 0]=nP (mX ls F 0):=by rw[Ka];simp
 refine bd c17 ?_;simp only[go_sem,i17,s32];refine Sw pf lo fun cf jv qF gC=>?_;have DW:=gC 1088000000 ae;simp only[go_sem] at DW;simp only[go_sem,DW,m2,wF,r1,r2,s33,s34,gT pps,gT pcs,e1,e2];refine⟨ay,?_⟩;have hz:∀j,j≠1088064064->j≠1088000000->jv j=(0,none):=fun j a b=>(gC j a).trans (aJ b);have z1:=hz 1088256448 ae ae;have z2:=hz 1088256960 ae ae;have z3:=hz 1088257088 ae ae;refine ck (fun k aj blk=>aj 4=.one cf/\aj 6=.one (.aZ 1088257088 1 0)/\aj 7=vb (dn ls k)/\aj 42=.one (.p (mJ ls))/\aj 43=vi ls.length/\aj 44=vi k/\
   blk 1088256448=(1,some (.arr 3 1 (nP (List.replicate (2*ls.length) 0))))/\blk 1088256960=(1,some (.arr 3 1 (nP (mX ls F k))))/\
   ∃pc,blk 1088257088=(1,some (.var (Eb F ls pc cf)))/\grown 1088896448 fZ 7 (aX ((pieces ls).take k)) (.one pc) blk/\grown 1088064064 u6 5 (kr (cX F ls)) (.one cf) blk) 0 ls.length (bc _) ?_ ?_
 .simp only[go_sem,z1,z2,z3];refine⟨rfl,rfl,.p .nils,rfl,.inl ⟨rfl,rfl⟩,qF.of_eq ?_⟩;simp only[go_sem]
 rintro k aj blk hk ⟨h4,h6,h7,jc,E6,Fa,bL,bC,pc,bB,gp,gf⟩
 by_cases au:k<ls.length
 .obtain⟨l,bx⟩:=aL au;have hi:=iU bx;have aF:((k:Int)<(ls.length:Int)):=aa;have w1:=bj (n:=k) aa;have r9:=ss bx;cases hp:(l.kind==1) with
  |false=>
   have iz:l.aG=false:=hp;have nY:ko ls k=false:=by simp[ko,bx,iz]
   rw[nY] at r9;have hd:=Eo bx iz;have tn:=PQ (F:=F) bx iz;have mE:aX ((pieces ls).take (k+1))=aX ((pieces ls).take k)++[(Pc.mk l false).ps]:=by rw[lR,r9];simp
   simp only[go_sem,i17_l1,h6,jc,E6,Fa,hi,Let.ps,aF,hp,bB];refine wy (site:=1088896448) (id:=1088896448) (bytes:=56) (xs:=[(Pc.mk l false).ps]) (rd:=[1088896384]) (gp.of_eq (by simp only[aP,Nat.reduceEqDiff,if_false])) (by simp[eK,aP,Pc.ps]) (.inl rfl) (by simp only[cq,dN,fj,jt,eI];omega) fun c aW r u hc hb hr=>?_;have o9:∀i,i≠1088896448->i≠1088896384->i≠1088576128->i≠1088512128->i≠1088256960->aW i=blk i:=fun i a b c d e=>(hb i a a).trans (by simp only[aP,if_neg b,if_neg c,if_neg d])
   have Fm:=(hb 1088256960 ae ae);simp only[aP,Nat.reduceEqDiff,if_false,bC] at Fm;have DY:=(o9 1088257088 ae ae ae ae ae).trans bB;have bL1:=(o9 1088256448 ae ae ae ae ae).trans bL;simp only[go_sem,h4,h6,h7,jc,E6,Fa,DY,bL1,Fm,w1,hd,tn,au];refine⟨?_,?_⟩
   .rcases hr with ⟨rfl,rfl⟩|⟨rfl,rfl⟩|⟨rfl,rfl⟩<;>kernel_rfl
   refine⟨c,rfl,?_,?_⟩
   .rw[mE];exact hc.of_eq (aJ ae)
   exact gf.of_eq ((aJ ae).trans (o9 _ ae ae ae ae ae))
  |true=>
   have iz:l.aG=true:=hp;have nY:ko ls k=dn ls k:=by simp[ko,bx,iz]
   rw[nY] at r9;have hd:=En bx iz;have mE:aX ((pieces ls).take (k+1))=aX ((pieces ls).take k)++[(Pc.mk l (dn ls k)).ps]:=by rw[lR,r9];simp
   have uw:=ok.ax.gA l (ba bx) iz;obtain⟨G,hG⟩:=nG uw.g0;have wO:G<=F:=by have:=uw.g1;omega
   have wP:G<F+1:=aa;have l6:=fv (PN (ls:=ls) (k:=k) wO);have ef:cg (ls.take k) G<=k:=ub _ _ _;have w2:=bj (n:=cg (ls.take k) G) aa;have s1:=CP (mX ls F k) G (cg (ls.take k) G+1);rw[<- PO bx iz hG] at s1;simp only[go_sem,i17_l1,h6,h7,jc,E6,Fa,hi,Let.ps,aF,hp,hG,bB,bC,l6,wP,w2,s1];refine⟨ay,?_⟩;refine wy (site:=1088896448) (id:=1088896448) (bytes:=56) (xs:=[(Pc.mk l (dn ls k)).ps]) (rd:=[1088896384]) (gp.of_eq (by simp only[aP,Nat.reduceEqDiff,if_false])) (by simp[eK,aP,Pc.ps,hG]) (.inl rfl) (by simp only[cq,dN,fj,jt,eI];omega) fun c aW r u hc hb hr=>?_
   have o9:∀i,i≠1088896448->i≠1088896384->i≠1088576128->i≠1088512128->i≠1088256960->aW i=blk i:=fun i a b c d e=>(hb i a a).trans (by simp only[aP,if_neg b,if_neg c,if_neg d,if_neg e]);have Fm:=(hb 1088256960 ae ae);simp only[aP,Nat.reduceEqDiff,if_false,if_true,bC] at Fm;have DY:=(o9 1088257088 ae ae ae ae ae).trans bB;have bL1:=(o9 1088256448 ae ae ae ae ae).trans bL;simp only[go_sem,h4,h6,h7,jc,E6,Fa,DY,bL1,Fm,w1,hd,au];refine⟨?_,?_⟩
   .rcases hr with ⟨rfl,rfl⟩|⟨rfl,rfl⟩|⟨rfl,rfl⟩<;>kernel_rfl
   refine⟨c,rfl,?_,?_⟩
   .rw[mE];exact hc.of_eq (aJ ae)
   exact gf.of_eq ((aJ ae).trans (o9 _ ae ae ae ae ae))
 have:k=ls.length:=aa;subst this;rw[fS (by rw[eI];exact bo _)] at gp;rw[JZ] at bC;simp only[go_sem,i17_l1,E6,Fa,dT];refine adb g (pc:=pc) (cf:=cf) ?_ ?_ bB bL bC gp gf ?_
 .simp only[go_sem,h4]
 .simp only[go_sem,h6]
 intro aB ak q6 cB cL cC gp' gf';simp only[go_sem,h6] at q6;obtain⟨rp,np,_⟩:=gp'.N7 (n:=4);obtain⟨rf,nf,_⟩:=gf'.N7 (n:=4);have t1:List.take (2*ls.length) (nP (fQ F ls))=nP (fQ F ls):=fS (by simp[fQ,Ij]);have t2:List.take (F+1) (nP (counts ls F))=nP (counts ls F):=fS (by simp[counts]);have n1:2*ls.length<=(fQ F ls).length:=by simp[fQ,Ij]
 have n2:F+1<=(counts ls F).length:=by simp[counts]
 simp only[go_sem,i17_r5,q6];simp only[go_sem,ji,qB,sX,lX,kV,jF,cB,cL,cC,np,nf,t1,t2,n1,n2];rfl
theorem nE{x:Int}(h1: -9223372036854775808<=x)(h2:x<=9223372036854775807):IntKind.i64.wrap x=x:=by
 have e:(2 ^ IntKind.i64.bits:Int)=18446744073709551616:=ae;have e2:(2 ^ (IntKind.i64.bits-1):Int)=9223372036854775808:=ae;unfold IntKind.wrap;simp only[e,e2];by_cases h:0<=x
 .have h3:x%18446744073709551616=x:=aa;rw[h3];have h4:¬x≥9223372036854775808:=aa;simp[h4]
 have h3:x%18446744073709551616=x+18446744073709551616:=aa;rw[h3];have h4:x+18446744073709551616≥9223372036854775808:=aa;have h5:IntKind.i64.signed=true:=rfl;simp[h4,h5]
theorem GI(l:List Pc):fR 7 (aX l)=true:=by simp[fR,Pc.ps]
theorem eT(l:List Pc):((aX l).all fun e=>e.all PV.scalar)=true:=by simp[Pc.ps,PV.scalar]
theorem zk(l:List Pc):∀e∈aX l,e.length=7/\ ∀v∈e,v.norm=v:=fun e he=>by obtain⟨a,_,rfl⟩:=iX.1 he;exact⟨rfl,fun v hv=>by simp[Pc.ps] at hv;rcases hv with rfl|rfl|rfl|rfl|rfl|rfl|rfl<;>rfl⟩
abbrev cZ(l x:List Pc)(k:Nat):List Pc:=l.take (k+1)++x++l.drop (k+1)
theorem IF(a b:List Pc):aX (a++b)=aX a++aX b:=af
theorem gD(l x:List Pc)(k:Nat)(hk:k<l.length)(hl:l.length<=1000000)(hx:x.length<=1000000):
  aE S 86 [.one (.p (.sl (aX l))),vi k,.one (.p (.sl (aX x)))] (.one (bg fZ 7 (aX (cZ l x k)))):=by
 have w1:=bj (n:=k) aa;have bx:k+1<=l.length:=aa;have hs:=GI l;have ht:List.take (k+1) (aX l)=aX (l.take (k+1)):=by simp[List.map_take]
 have hd:List.take (l.length-(k+1)) (List.drop (k+1) (aX l))=aX (l.drop (k+1)):=by rw[fS af];simp[List.map_drop]
 refine bd c86 ?_;simp only[go_sem,i86,w1,bx,hs,ht];refine nU (id:=5504064256) (site:=5504064256) (bytes:=56) grown.nil (xs:=aX (l.take (k+1))) (rd:=[]) rfl (.inr (GI _)) (by simp;omega) fun c1 aW g1 aQ=>?_;simp only[go_sem];refine nU (id:=5504064256) (site:=5504128128) (bytes:=56) g1 (xs:=aX x) (rd:=[]) rfl (.inr (GI _)) (by simp;omega) fun c2 aN g2 aS=>?_;simp only[go_sem,w1,bx,hs,hd];refine nU (id:=5504128128) (site:=5504192320) (bytes:=56) g2 (xs:=aX (l.drop (k+1))) (rd:=[]) rfl (.inr (GI _)) (by simp;omega) fun c3 iG g3 jB=>?_;simp only[go_sem];rw[xQ,<- IF,<- IF] at g3;exact tc g3
theorem YA(p:Pc)(t:List Pc)(hl:(p::t).length<=1000000):aE S 85 [.one (.p (.sl (aX (p::t))))] (.one (bg fZ 7 (aX (p::t)))):=by
 have hs:=GI (p::t);have hr:(0+(aX (p::t)).length)*56<=room:=by unfold room;rw[cq];omega
 refine bd c85 ?_;obtain⟨e0,es,hq⟩:∃e0 es,aX (p::t)=e0::es:=⟨_,_,rfl⟩;rw[hq] at hs hr ⊢;have aR:e0::es≠[]:=af;have yG:bg fZ 7 (e0::es)=.own fZ 7 (e0::es):=if_neg aR;rw[yG];unfold room at hr;simp only[kZ,dN] at hr;simp only[fR,tQ] at hs;simp only[go_sem,i85,fe,fR];simp only[hs,hr,not_true_eq_false,if_true,if_false];simp only[go_sem];exact ID rn rfl
def pI(g ab b:Int)(p:Pc):Pc:=if (p.l.kind==1)&&((p.l.gate==g)&&decide (ab<p.l.aO)) then {p with l:={p.l with aO:=p.l.aO+b}} else p
abbrev ed(l:List Pc)(g ab b:Int):List Pc:=l.map (pI g ab b)
def Vp(id:Nat)(es:List (List PV))(c:C)(blk:aw)(v:V)(ak:aw):Prop:=v=.tup []/\grown id fZ 7 es (.one c) ak/\Kept (· =id) blk ak
theorem aeX{al:Al}{blk:aw}{id:Nat}{l:List Pc}{c:C}{g ab b:Int}(o:l=[]\/al.ok id=true)(hl:l.length<=1000000)(hb: -100<=b/\b<=100)(hr:∀p∈l,-1000000<=p.l.aO/\p.l.aO<=1000000)(h:grown id fZ 7 (aX l) (.one c) blk):
  ∃v ak,fT S 83 [.one c,vi g,vi ab,vi b] al blk v ak/\Vp id (aX (ed l g ab b)) c blk v ak:=by
 refine lf c83 (fy rfl) ?_;rcases h with ⟨h1,h2⟩|⟨aR,gg,h2,hC⟩
 .cases h2;have Au:l=[]:=by simpa using h1
  subst Au;have hz:¬(((0:Nat):Int)<((0:Nat):Int)):=aa;simp only[go_sem,i83];refine ck (fun k aj ak=>k=0/\aj 10=vi ((0:Nat):Int)/\aj 11=vi ((0:Nat):Int)/\ak=blk) 0 0 (bo _) ?_ ?_
  .simp only[go_sem];exact rfl
  rintro k aj ak _ ⟨rfl,dK,hJ,rfl⟩
  simp only[go_sem,i83_l1,dK,hJ,hz];exact⟨rfl,.inl ⟨rfl,rfl⟩,fun _ _=>rfl⟩
 cases h2;have o:=o.resolve_left (by simpa using aR);simp only[go_sem,i83];refine ck (fun k aj ak=>aj 0=.one (.hsl id gg 7 0 l.length)/\aj 1=vi g/\aj 2=vi ab/\aj 3=vi b/\aj 10=vi l.length/\aj 11=vi k/\ak id=(gg,some (.arr fZ 7 (aX ((ed (l.take k) g ab b)++l.drop k))))/\Kept (· =id) blk ak) 0 l.length (bc _) ?_ ?_
 .simp only[go_sem,hC];refine⟨?_,?_⟩
  .simp[]
  exact Kept.refl _ _
 rintro k aj ak hk ⟨h0,h1,h2,h3,dK,hJ,hF,bJ⟩
 by_cases au:k<l.length
 .have aF:((k:Int)<(l.length:Int)):=aa;obtain⟨p,hp⟩:=aL au;have w1:=bj (n:=k) aa;obtain⟨r1,r2⟩:=hr p (ba hp);have wr:=nE (x:=p.l.aO+b) aa aa;have Ag:l.drop k=p::l.drop (k+1):=by
   obtain⟨hh,rfl⟩:=bn.1 hp;exact List.drop_eq_getElem_cons hh
  have hlen:((ed (l.take k) g ab b)++l.drop k).length=l.length:=by simp[ed];omega
  have gJ:((ed (l.take k) g ab b)++l.drop k)[k]?=some p:=by
   rw[zG (by simp[ed];omega)];have:k-(ed (l.take k) g ab b).length=0:=by simp[ed];omega
   rw[this,Ag];rfl
  have iT:((ed (l.take k) g ab b)++l.drop k).set k (pI g ab b p)=(ed (l.take (k+1)) g ab b)++l.drop (k+1):=by
   have e1:(ed (l.take k) g ab b).length=k:=by simp[ed];omega
   rw[List.set_append_right _ _ aa,e1,Nat.sub_self,Ag,List.set_cons_zero,lR,hp];simp[ed]
  have eF:=fM gJ;have yN:aX (((ed (l.take k) g ab b)++l.drop k).set k (pI g ab b p))=(aX ((ed (l.take k) g ab b)++l.drop k)).set k (pI g ab b p).ps:=by simp[aX,List.map_set]
  rw[iT] at yN;have yT:pI g ab b p=p->aX ((ed (l.take k) g ab b)++l.drop k)=aX ((ed (l.take (k+1)) g ab b)++l.drop (k+1)):=fun e=>by rw[yN,e];obtain⟨hh,he⟩:=bn.1 eF;rw[<- he,List.set_getElem_self]
  generalize (ed (l.take k) g ab b)++l.drop k=m at hF gJ eF yN yT hlen;have jZ:k<(aX m).length:=by rw[cq];omega
  cases c1:(p.l.kind==1) with
  |false=>have e:=yT (by unfold pI;rw[c1];rfl);simp only[go_sem,i83_l1,h0,h1,h2,h3,dK,hJ,hF,eF,Pc.ps,au,aF,c1,w1,o];exact⟨by rw[e],bJ⟩
  |true=>
   cases c2:(p.l.gate==g) with
   |false=>have e:=yT (by unfold pI;rw[c1,c2];rfl);simp only[go_sem,i83_l1,h0,h1,h2,h3,dK,hJ,hF,eF,Pc.ps,au,aF,c1,c2,w1,o];exact⟨by rw[e],bJ⟩
   |true=>
    by_cases c3:ab<p.l.aO
    .have e:(pI g ab b p).ps=[.int .i64 p.l.kind,.int .i64 p.l.gate,.int .i64 (p.l.aO+b),.int .i64 p.l.id,.int .i64 p.l.sign,.bool p.l.over,.bool p.d]:=by unfold pI;rw[c1,c2,decide_eq_true c3];rfl
     rw[e] at yN;simp only[go_sem,i83_l1,h0,h1,h2,h3,dK,hJ,hF,eF,Pc.ps,au,aF,c1,c2,c3,w1,wr,o];refine⟨?_,?_⟩
     .first|rw[yN]|(rw[yN];rfl)
     exact bJ.ca rfl _
    have e:=yT (by unfold pI;rw[c1,c2,decide_eq_false c3];rfl);simp only[go_sem,i83_l1,h0,h1,h2,h3,dK,hJ,hF,eF,Pc.ps,au,aF,c1,c2,c3,w1,o];exact⟨by rw[e],bJ⟩
 have:k=l.length:=aa;subst this;simp only[go_sem,i83_l1,dK,hJ,dT];refine⟨rfl,?_,bJ⟩;rw[ke,List.drop_length,qu] at hF;exact .inr ⟨by simpa using aR,gg,by simp[ed],hF⟩
def A5(p:Pc):Bool:=(p.l.kind==1)&&p.d
def Gu(l:List Pc)(i:Nat):Bool:=match l[i]? with|some p=>A5 p|none=>false
theorem Nw{l:List Pc}{i:Nat}{p:Pc}(h:l[i]?=some p):Gu l i=A5 p:=by simp[Gu,h]
def pX(l:List Pc):Option Nat:=(List.range l.length).find? (Gu l)
theorem Y6(p:Pc):aE S 64 [.agg (p.ps.map .p)] (rb (A5 p)):=by
 refine bd c64 ?_;unfold A5;cases h:(p.l.kind==1) with
 |true=>simp only[go_sem,i64,Pc.ps,h]
 |false=>simp only[go_sem,i64,Pc.ps,h]
theorem abQ(l:List Pc)(hl:l.length<=1000000):aE S 63 [.one (.p (.sl (aX l))),.one (.p (.fn 64 [] []))] (ri (match pX l with|some k=>(k:Int)|none=> -1)):=by
 refine bd c63 ?_;simp only[go_sem,i63];refine ck (fun k aj blk=>aj 0=.one (.p (.sl (aX l)))/\aj 1=.one (.p (.fn 64 [] []))/\aj 7=vi l.length/\aj 8=vi k/\ ∀j,j<k->Gu l j=false) 0 l.length (bc _) ?_ ?_
 .simp only[go_sem];exact⟨rfl,fun j hj=>absurd hj (rC j)⟩
 rintro k aj blk hk ⟨h0,h1,h7,h8,hn⟩
 by_cases au:k<l.length
 .have aF:((k:Int)<(l.length:Int)):=aa;obtain⟨p,hp⟩:=aL au;have eF:=fM hp;have w1:=bj (n:=k) aa;have pd:=Y6 p;have mC:=Nw hp;cases hb:A5 p with
  |true=>rw[hb] at pd mC;have hf:pX l=some k:=ym au hn mC;simp only[Pc.ps,dE,jj] at pd;simp only[go_sem,i63_l1,h0,h1,h7,h8,aF,eF,Pc.ps,s64,bY pd,hf]
  |false=>
   rw[hb] at pd mC;simp only[Pc.ps,dE,jj] at pd;simp only[go_sem,i63_l1,h0,h1,h7,h8,au,aF,eF,Pc.ps,s64,bY pd,w1];intro j hj;rcases kK.1 hj with h|rfl
   .exact hn j h
   exact mC
 have:k=l.length:=aa;subst this;have hf:pX l=none:=EG hn;simp only[go_sem,i63_l1,i63_r2,h7,h8,dT,hf]
abbrev xu:Nat:=51
def rl(l:List Pc)(aae k:Nat):List Let:=(List.range k).map fun i=>(l.getD ((aae+i)%l.length) ⟨iK,false⟩).l
theorem aeH{l:List Pc}{f k:Nat}{p:Pc}(h:l[(f+k)%l.length]?=some p):rl l f (k+1)=rl l f k++[p.l]:=by simp[rl,sL,cP,h]
def pW(l:List Pc):List Let:=rl l ((pX l).getD 0) l.length
abbrev si(o:List Let):List (List PV):=o.map Let.ps
theorem aav{s1 t1 z1:Nat}{es:List (List PV)}{c:C}{x:PV}{blk:aw}(h:grown s1 t1 z1 es (.one c) blk):ji blk (.agg [.p x,c])=some (.agg [.p x,bg t1 z1 es]):=by obtain⟨c',o,hc,h2,h3⟩:=h.jF;cases hc;rcases h3 with rfl|rfl<;>simp[ji,qB,lX,kV,h2,(show Go.Abs.jF blk (.p x)=some (.p x,[],[]) from rfl),apart,tM,qq]
theorem Sc(F:Nat)(l:List Pc)(hl:l.length<=1000000)(x1 x2 x3 x4 x5 x6:PV):aE S 38 [.one (.p (.box [.int .i64 F,x1,x2,x3,x4,x5,x6])),.one (.p (.sl (aX l)))] (.agg [.p (.int .i64 F),bg xu 6 (si (pW l))]):=by
 have px:=abQ l hl;have hfd:∃f,(pX l).getD 0=f/\(l≠[]->f<l.length):=by
  refine⟨_,rfl,fun aR=>?_⟩;cases h:pX l with
  |none=>exact nH.2 aR
  |some k=>exact iN.1 (Jn h)
 obtain⟨f,hf,qH⟩:=hfd;have qh:((pX l=none/\f=0)\/pX l=some f):=by
  cases h:pX l with
  |none=>rw[h] at hf;exact .inl ⟨rfl,hf.symm⟩
  |some k=>rw[h] at hf;exact .inr (congrArg some hf)
 unfold pW;rw[hf];have main:∀(aj:Env) (blk:aw),aj 1=.one (.p (.sl (aX l)))->aj 4=.one (.aZ 2432000000 1 0)->aj 5=.one (.aZ 2432064320 1 0)->aj 6=vi f->aj 17=vi l.length->aj 18=vi ((0:Nat):Int)->blk 2432000000=(1,some (.var [.p (.int .i64 0),.p .nils]))->blk 2432064320=(1,some (.var [.p (.int .i64 F),.p .nils]))->
   W S .all (.loop i38_l1) (nO 0 (xJ S .all i38_r2 (oL .all [(4,some (some 2))] fun v blk=>ji blk v=some (.agg [.p (.int .i64 F),bg xu 6 (si (rl l f l.length))])))) aj blk:=by
  intro aj blk e1 e4 e5 e6 e17 e18 b0 bO;refine ck (fun k aj blk=>aj 1=.one (.p (.sl (aX l)))/\aj 4=.one (.aZ 2432000000 1 0)/\aj 5=.one (.aZ 2432064320 1 0)/\aj 6=vi f/\aj 17=vi l.length/\aj 18=vi k/\blk 2432000000=(1,some (.var [.p (.int .i64 0),.p .nils]))/\ ∃c,blk 2432064320=(1,some (.var [.p (.int .i64 F),c]))/\grown 2432384832 xu 6 (si (rl l f k)) (.one c) blk) 0 l.length (bc _) ⟨e1,e4,e5,e6,e17,e18,b0,.p .nils,bO,.inl ⟨rfl,rfl⟩⟩ ?_;rintro k aj blk hk ⟨h1,h4,h5,h6,qD,ng,b0,c,bO,gc⟩
  by_cases au:k<l.length
  .have aF:((k:Int)<(l.length:Int)):=aa;have aR:l≠[]:=nH.1 aa;have qH:=qH aR;have w1:=bj (n:=k) aa;have w2:=wrap_add (a:=f) (b:=k) aa;have e2:=rm (f+k) l.length;have hm:=eJ (f+k) (show 0<l.length by omega);obtain⟨p,hp⟩:=aL hm;have eF:=fM hp;have hz:¬((l.length:Int)=0):=aa;have hr:=aeH hp;have hle:(rl l f k).length=k:=by simp[rl]
   simp only[go_sem,i38_l1,h1,h5,h6,qD,ng,bO,aF,w2,e2,hz,eF,Pc.ps];refine wy (site:=2432384832) (id:=2432384832) (bytes:=48) (xs:=[p.l.ps]) (rd:=[2432384768]) (gc.of_eq (aJ ae)) (by simp[eK,aP,Let.ps]) (.inl rfl) (by simp only[cq,hle,dN,fj];omega) fun c' aW r u hc hb hru=>?_;have bO1:=(hb 2432064320 ae ae).trans ((aJ ae).trans bO);have b01:=(hb 2432000000 ae ae).trans ((aJ ae).trans b0);simp only[go_sem,h1,h4,h5,h6,qD,ng,bO1,b01,au,w1];refine⟨?_,c',rfl,?_⟩
   .rcases hru with ⟨rfl,rfl⟩|⟨rfl,rfl⟩|⟨rfl,rfl⟩<;>kernel_rfl
   rw[hr,si,uU];exact hc.of_eq (aJ ae)
  have:k=l.length:=aa;subst this;simp only[go_sem,i38_l1,i38_r2,h4,h5,qD,ng,bO,b0,dT];exact aav (gc.of_eq (aJ ae))
 refine bd c38 ?_;rcases qh with ⟨hn,rfl⟩|hs
 .rw[hn] at px;have FN:¬((0:Int)< -1):=ae;simp only[go_sem,i38,s63,dR px];exact main _ _ (by simp only[go_sem]) (by simp only[go_sem]) (by simp only[go_sem]) (by simp only[go_sem];rfl) (by simp only[go_sem]) (by simp only[go_sem];rfl) (by simp only[go_sem]) (by simp only[go_sem])
 rw[hs] at px;simp only[go_sem,i38,s63,dR px];exact main _ _ (by simp only[go_sem]) (by simp only[go_sem]) (by simp only[go_sem]) (by simp only[go_sem];split<;>(first|rfl|(congr 1;simp;omega))) (by simp only[go_sem]) (by simp only[go_sem];rfl) (by simp only[go_sem]) (by simp only[go_sem])
theorem TE:aE S 36 [] (.agg [.p .fX,.p (.fn 54 [] []),.p (.fn 55 [] []),.p (.fn 56 [] []),.p (.fn 57 [] []),.p (.fn 58 [] []),.p (.fn 59 [] []),.p (.fn 60 [] []),.p (.fn 61 [] []),.p (.fn 62 [] []),.p (.fn 62 [] [])]):=by refine bd c36 ?_;simp only[go_sem,i36];rfl
def gZ(k:Int):Int×Int:=if k=2 then (2,0) else if k=5 then (2,1) else if k=7 then (4,2) else (0,0)
theorem SI(k:Int):aE S 37 [vi k] (.tup [.one (.p (.int .i64 (gZ k).1)),.one (.p (.int .i64 (gZ k).2))]):=by
 refine bd c37 ?_;unfold gZ;by_cases h2:k=2
 .subst h2;simp only[go_sem,i37];rfl
 by_cases h5:k=5
 .subst h5;simp only[go_sem,i37];rfl
 by_cases h7:k=7
 .subst h7;simp only[go_sem,i37];rfl
 rw[if_neg h2,if_neg h5,if_neg h7];have e2:(k==2)=false:=by simpa using h2
 have e5:(k==5)=false:=by simpa using h5
 have e7:(k==7)=false:=by simpa using h7
 simp only[go_sem,i37,e2,e5,e7];rfl
theorem DA(F:Nat)(x:Nat)(sg:Int)(ov:Bool)(x1 x2 x3 x4 x6:PV)(k:Nat)(hx:x<=1000000)(hk:k<=10):aE S 90 [.one (.p (.box [.int .i64 F,x1,x2,x3,x4,.int .i64 x,x6])),vi k,vi sg,vb ov] (.agg [.p (.int .i64 2),.p (.int .i64 0),.p (.int .i64 0),.p (.int .i64 ((x+k:Nat):Int)),.p (.int .i64 sg),.p (.bool ov),.p (.bool false)]):=by have w:=wrap_add (a:=x) (b:=k) aa;refine bd c90 ?_;simp only[go_sem,i90,w];rfl
def tH(o:List (Nat×Nat))(p:Nat×Nat)(i:Nat):Bool:=o[i]?==some p
theorem adI(o:List (Nat×Nat))(p:Nat×Nat)(hl:o.length<=1000000):aE S 115 [.one (.p (.sl (gQ o))),.agg [.p (.int .i64 p.1),.p (.int .i64 p.2)]] (ri (match (List.range o.length).find? (tH o p) with|some k=>(k:Int)|none=> -1)):=by
 refine bd c115 ?_;simp only[go_sem,i115];refine ck (fun k aj blk=>aj 0=.one (.p (.sl (gQ o)))/\aj 3=.one (.aZ 7360000000 1 0)/\blk 7360000000=(1,some (.var [.p (.int .i64 p.1),.p (.int .i64 p.2)]))/\aj 7=vi o.length/\aj 8=vi k/\ ∀j,j<k->tH o p j=false) 0 o.length (bc _) ?_ ?_
 .simp only[go_sem];exact⟨rfl,fun j hj=>absurd hj (rC j)⟩
 rintro k aj blk hk ⟨h0,h3,b0,h7,h8,hn⟩
 by_cases au:k<o.length
 .have aF:((k:Int)<(o.length:Int)):=aa;obtain⟨q,hp⟩:=aL au;have eF:=adF hp;have w1:=bj (n:=k) aa;have mC:tH o p k=decide (q=p):=by
   simp only[tH,hp];by_cases h:q=p<;>simp[h]
  by_cases hb:q=p
  .subst hb;have hf:=ym (p:=tH o q) au hn (by rw[mC];simp);simp only[go_sem,i115_l1,h0,h3,b0,h7,h8,aF,eF,hf,lq,lV];exact ay
  have hpf:tH o p k=false:=by rw[mC];exact decide_eq_false hb
  have aR:((p.1:Int)==(q.1:Int))=false\/(((p.1:Int)==(q.1:Int))=true/\((p.2:Int)==(q.2:Int))=false):=by
   by_cases h1:q.1=p.1
   .refine .inr ⟨by simp[h1],?_⟩;have:q.2≠p.2:=fun h2=>hb (Prod.ext h1 h2);simp;omega
   left;simp;omega
  have w9:∀j,j<k+1->tH o p j=false:=fun j hj=>by
   rcases kK.1 hj with h|rfl
   .exact hn j h
   exact hpf
  rcases aR with e1|⟨e1,e2⟩
  .simp only[go_sem,i115_l1,h0,h3,b0,h7,h8,au,aF,eF,w1,lq,lV,e1];exact⟨ay,w9⟩
  simp only[go_sem,i115_l1,h0,h3,b0,h7,h8,au,aF,eF,w1,lq,lV,e1,e2];exact⟨ay,w9⟩
 have:k=o.length:=aa;subst this;have hf:=EG (p:=tH o p) hn;simp only[go_sem,i115_l1,i115_r2,h7,h8,dT,hf]
theorem YN(o:List (Nat×Nat))(p:Nat×Nat)(hl:o.length<=1000000):aE S 84 [.one (.p (.sl (gQ o))),.agg [.p (.int .i64 p.1),.p (.int .i64 p.2)]] (rb (decide (p∈o))):=by
 have pi:=adI o p hl;refine bd c84 ?_;by_cases hm:p∈o
 .obtain⟨k,hk⟩:=iV hm;have dd:=(bn.1 hk).1;cases hf:(List.range o.length).find? (tH o p) with
  |none=>have:=DE.1 hf k (iN.2 dd);simp[tH,hk] at this
  |some j=>rw[hf] at pi;have n0:(0:Int)<=(j:Int):=aa;simp only[go_sem,i84,s115,dR pi,n0,hm]
 cases hf:(List.range o.length).find? (tH o p) with
 |some j=>have h1:=List.find?_some hf;simp only[tH,beq_iff_eq] at h1;exact absurd (ba h1) hm
 |none=>rw[hf] at pi;have n0:¬(0:Int)<= -1:=ae;simp only[go_sem,i84,s115,dR pi,n0,hm]
theorem Ej{l:List Pc}(aR:l≠[])(hl:l.length<=1000000):aE S 85 [.one (.p (.sl (aX l)))] (.one (bg fZ 7 (aX l))):=by
 cases l with
 |nil=>exact absurd rfl aR
 |cons p t=>exact YA p t hl
section
variable {Q:dF} {aj:Env} {blk:aw} {os:List aI} {d:Option Nat}
theorem Cd{id:Nat}{l:List Pc}{c:C}{g ab b:Int}(hl:l.length<=1000000)(hb: -100<=b/\b<=100)(hr:∀p∈l,-1000000<=p.l.aO/\p.l.aO<=1000000)(hg:grown id fZ 7 (aX l) (.one c) blk)
  (hK:∀ak,grown id fZ 7 (aX (ed l g ab b)) (.one c) ak->(∀i,i≠id->ak i=blk i)->RN S .all os Q (put aj d (.tup [])) ak):gP S .all (.sc 83 [.one c,vi g,vi ab,vi b]) d os Q aj blk:=by
 have ho:l=[]\/(allow (S.ctx .all) 83 [.one c,vi g,vi ab,vi b] blk).ok id=true:=by
  rcases IS hg with ⟨h,_⟩|h
  .exact .inl (by simpa using h)
  exact .inr (vT (by simp[h]))
 refine rQ (P:=Vp id (aX (ed l g ab b)) c blk) xg (aeX ho hl hb hr hg) ?_;rintro v ak ⟨rfl,h1,h2⟩
 exact hK ak h1 h2
end
theorem acv(fs:List Fc):∀(j:Nat) (L:List Nat),∀v∈me fs j L,v∈L\/v<j+fs.length:=by
 have iT:∀(ds:List Nat) (L:List Nat) (x:Nat),∀v∈kX L ds x,v∈L\/v=x:=by
  intro ds
  induction ds with
  |nil=>intro L x v h;exact .inl h
  |cons d ds ih=>
   intro L x v h;rcases ih (L.set d x) x v h with h|h
   .rcases List.mem_or_eq_of_mem_set h with h|h
    .exact .inl h
    exact .inr h
   exact .inr h
 induction fs with
 |nil=>intro j L v h;exact .inl h
 |cons f r ih=>
  intro j L v h;rcases ih (j+1) (kX L f.bX j) v h with h|h
  .rcases iT _ _ _ v h with h|h
   .exact .inl h
   subst h;exact .inr af
  exact .inr (by simp only[dN];omega)
def Gm:Fc:=⟨false,[],[],[],false⟩
def jW(F:Nat)(ls:List Let)(d:Nat):Fc:=(cX F ls).getD ((fQ F ls).getD d 0) Gm
theorem A1(F:Nat)(ls:List Let):(fQ F ls).length=2*ls.length:=by simp[fQ,Ij]
theorem EE(g:cS F ls){d:Nat}(hd:d<2*ls.length):∃j,(fQ F ls)[d]?=some j/\(cX F ls)[j]?=some (jW F ls d)/\j<(cX F ls).length:=by
 obtain⟨j,hj⟩:=aL (ls:=fQ F ls) (k:=d) (by rw[A1];exact hd);have hn:0<(cX F ls).length:=by rw[R6,g.nw];omega
 have pj:j<(cX F ls).length:=by
  rcases acv (cX F ls) 0 _ j (ba hj) with h|h
  .have:=Jm h;omega
  omega
 refine⟨j,hj,?_,pj⟩;obtain⟨f,hf⟩:=aL pj;unfold jW;rw[cP (l:=fQ F ls),hj,kL,cP,hf];rfl
def qT(b:Nat)(r:Int)(d:Bool):Pc:=⟨⟨1,b,r,0,0,false⟩,d⟩
def zR(ls:List Let)(av b c:Nat)(f:Fc)(side:Bool):List Pc:=cZ (ed (pieces ls) b c 2) [qT b (if f.eC !=side then ((c+2:Nat):Int) else ((c+1:Nat):Int)) f.eC,qT b (if f.eC !=side then ((c+1:Nat):Int) else ((c+2:Nat):Int)) (!f.eC)] av
def tY(F:Nat)(ls:List Let)(av b c:Nat):Option (List Pc):=
 if (b,c)∈(jW F ls (2*av)).places then some (zR ls av b c (jW F ls (2*av)) false)
 else if (b,c)∈(jW F ls (2*av+1)).places then some (zR ls av b c (jW F ls (2*av+1)) true) else none
def kR (o:Option (List Pc)):RV:=.tup [.one (bg fZ 7 (aX (o.getD []))),.one (.p (.bool o.isSome))]
theorem Gw(g:cS F ls):∀p∈pieces ls,-1000000<=p.l.aO/\p.l.aO<=1000000:=by
 intro p hp;obtain⟨i,hi⟩:=iV hp;have kQ:i<ls.length:=by rw[<- eI];exact(bn.1 hi).1
 obtain⟨l,hl⟩:=aL kQ;rw[ss hl] at hi;cases hi;rcases g.ok.kinds l (ba hl) with h|h
 .have hg:=g.ok.ax.gA l (ba hl) h;have:=hg.r0;have:=hg.r1;have hc:cg ls l.gate.toNat<=ls.length:=oH _ _;have:=g.len;simp only;omega
 have:=(Nj (f:=F) h).1 (g.bad l (ba hl));simp only[this.1.2];omega
theorem O1{F:Nat}{ls:List Let}(g:cS F ls){av b c k:Nat}(ha:av<ls.length)(Ff:b<=F)(hc:c<=1000){l o:Bool}{sg:Int}(hk:k<2){aj:Env}{blk:aw}{Q:dF}
  (h0:aj 0=.one (.p (cE F ls))) (h3:aj 3=.one (.aZ 3520000000 1 0)) (h6:aj 6=.one (.aZ 3520064320 1 0)) (h7:aj 7=.one (.aZ 3520128448 1 0)) (h8:aj 8=.one (.aZ 3520192448 1 0)) (h40:aj 40=vi k)
  (b3:blk 3520000000=(1,some (.var [.p (.int .i64 2),.p (.int .i64 av),.p (.int .i64 b),.p (.int .i64 c),.p (.bool l),.p (.bool o),.p (.int .i64 sg)]))) (b6:blk 3520064320=(1,some (.var [.p (.int .i64 b),.p (.int .i64 c)])))
  (b7:blk 3520128448=(1,some (.var ((qT b ((c+1:Nat):Int) true).ps.map .p)))) (b8:blk 3520192448=(1,some (.var ((qT b ((c+2:Nat):Int) false).ps.map .p))))
  (dB:(b,c)∉(jW F ls (2*av+k)).places->∀aB ak,aB 0=aj 0->aB 3=aj 3->aB 6=aj 6->aB 7=aj 7->aB 8=aj 8->aB 40=vi ((k+1:Nat):Int)->(∀i,i≠3520577088->ak i=blk i)->W S .all (.loop i55_l1) (nO 0 Q) aB ak)
  (Tk:(b,c)∈(jW F ls (2*av+k)).places->∀aB ak s cc,aB 4=.one cc->aB 5=vb true->grown s fZ 7 (aX (zR ls av b c (jW F ls (2*av+k)) (k==1))) (.one cc) ak->Q .ret aB ak):
  W S .all (.loop i55_l1) (nO 0 Q) aj blk:=by
 have hlen:=g.len;have yD:=g.fing;obtain⟨j,Ao,iR,ve⟩:=EE g (d:=2*av+k) aa;have Ay:=ba iR;have qf:=fv Ao;have rZ:=EF iR;have au:((k:Int)<2):=aa;have bq:(jW F ls (2*av+k)).places.length<=1000000:=by obtain⟨w,hw,he⟩:=iX.1 Ay;obtain⟨_,tB,hwm⟩:=Jh g.ok w hw;have h1:=(RZ g.ok hwm w.length (bo _)).2.1;rw[RY,he] at h1;have gI:(aD ls).length<=ls.length:=pQ ls ls.length;have h2:w.length*(2*F+2)<=1600*82:=Nat.mul_le_mul (by unfold nD at tB;omega) aa;omega
 generalize FA:jW F ls (2*av+k)=f at*;have pc:=YN f.places (b,c) bq;have m2:=mj (a:=av) aa;have m3:=wrap_add (a:=2*av) (b:=k) aa;have w1:=bj (n:=k) aa;have Cl:2*av+k<(fQ F ls).length:=by rw[A1];omega
 have aR:pieces ls≠[]:=nH.1 (by rw[eI];omega);have abu:=eI ls;have pcl:=Ej aR aa;have qn:S.lone 3520896256=false:=ah;have vt:S.lone 3521024384=false:=ah;have dY:S.shared 83=true:=ah;refine k8 ?_;by_cases hm:(b,c)∈f.places
 .have Ck:decide ((b,c)∈f.places)=true:=decide_eq_true hm;rw[Ck] at pc;have hsw:(!f.eC==(((k:Nat):Int)==1))=(f.eC !=(k==1)):=by
   rcases(show k=0\/k=1 by omega) with rfl|rfl<;>cases f.eC<;>rfl
  have Au:(aX (ed (pieces ls) b c 2)).length=(pieces ls).length:=by simp[ed]
  have t1:List.take (pieces ls).length (aX (ed (pieces ls) b c 2))=aX (ed (pieces ls) b c 2):=fS (by rw[Au];exact bo _);cases hs:(f.eC !=(k==1)) with
  |true=>
    rw[hs] at hsw;simp only[go_sem,i55_l1,h0,h3,h6,h7,h8,h40,b3,b6,b7,b8,au,m2,m3,qf,rZ,Fc.ps,hsw,qT,Pc.ps,s84,bY pc];refine⟨ay,ay,?_⟩;refine jz pcl qn (.inl rfl) fun cc aW gc aQ=>?_;have e3:=aQ 3520000000 ae;have e7:=aQ 3520128448 ae;have e8:=aQ 3520192448 ae;simp only[go_sem,b3] at e3 e7 e8;simp only[go_sem,h3,e3,dY];refine Cd (l:=pieces ls) aa ae (Gw g) gc fun aN oR aS=>?_;have e3':=(aS 3520000000 ae).trans e3;have e7':=(aS 3520128448 ae).trans e7;have e8':=(aS 3520192448 ae).trans e8;rcases oR with ⟨e,_⟩|⟨_,gg,e,fq⟩
    .exact absurd (by simpa [ed] using e) aR
    cases e;simp only[go_sem,h3,h7,h8,e3',e7',e8',fq,Au,t1,s86];refine jz (gD (ed (pieces ls) b c 2) [qT b ((c+2:Nat):Int) f.eC,qT b ((c+1:Nat):Int) (!f.eC)] av (by rw[cq];omega) (by rw[cq];omega) af) vt (.inr (eu (eT _))) fun c2 iG wN jB=>?_;simp only[go_sem];exact Tk hm _ _ _ c2 (by simp only[go_sem]) (by simp only[go_sem]) (by unfold zR;rw[hs];exact wN)
  |false=>
    rw[hs] at hsw;simp only[go_sem,i55_l1,h0,h3,h6,h7,h8,h40,b3,b6,b7,b8,au,m2,m3,qf,rZ,Fc.ps,hsw,qT,Pc.ps,s84,bY pc];refine⟨ay,ay,?_⟩;refine jz pcl qn (.inl rfl) fun cc aW gc aQ=>?_;have e3:=aQ 3520000000 ae;have e7:=aQ 3520128448 ae;have e8:=aQ 3520192448 ae;simp only[go_sem,b3] at e3 e7 e8;simp only[go_sem,h3,e3,dY];refine Cd (l:=pieces ls) aa ae (Gw g) gc fun aN oR aS=>?_;have e3':=(aS 3520000000 ae).trans e3;have e7':=(aS 3520128448 ae).trans e7;have e8':=(aS 3520192448 ae).trans e8;rcases oR with ⟨e,_⟩|⟨_,gg,e,fq⟩
    .exact absurd (by simpa [ed] using e) aR
    cases e;simp only[go_sem,h3,h7,h8,e3',e7',e8',fq,Au,t1,s86];refine jz (gD (ed (pieces ls) b c 2) [qT b ((c+1:Nat):Int) f.eC,qT b ((c+2:Nat):Int) (!f.eC)] av (by rw[cq];omega) (by rw[cq];omega) af) vt (.inr (eu (eT _))) fun c2 iG wN jB=>?_;simp only[go_sem];exact Tk hm _ _ _ c2 (by simp only[go_sem]) (by simp only[go_sem]) (by unfold zR;rw[hs];exact wN)
 have Ck:decide ((b,c)∈f.places)=false:=decide_eq_false hm;rw[Ck] at pc;simp only[go_sem,i55_l1,h0,h3,h6,h40,b3,b6,au,m2,m3,qf,rZ,Fc.ps,s84,bY pc,w1];refine⟨ay,dB hm _ _ ?_ ?_ ?_ ?_ ?_ ?_ fun i hi=>?_⟩
 .simp only[go_sem,h0]
 .simp only[go_sem,h3]
 .simp only[go_sem,h6]
 .simp only[go_sem,h7]
 .simp only[go_sem,h8]
 .simp only[go_sem]
 simp only[aP,if_neg hi]
theorem XP(g:cS F ls){av b c:Nat}(ha:av<ls.length)(Ff:b<=F)(hc:c<=1000){l o:Bool}{sg:Int}:
  aE S 55 [.one (.p (cE F ls)),fc 2 av b c l o sg] (kR (tY F ls av b c)):=by
 have w1:=bj (n:=c) aa;have w2:IntKind.i64.wrap ((c:Int)+2)=((c+2:Nat):Int):=(nE (x:=(c:Int)+2) aa aa).trans aa;have hlen:=g.len;have xf:(((pieces ls).length:Int)==0)=false:=beq_eq_false_iff_ne.2 (by rw[eI];omega);have o0:∀aB ak s cc (L:List Pc),tY F ls av b c=some L->aB 4=.one cc->aB 5=vb true->grown s fZ 7 (aX L) (.one cc) ak->
   nO 0 (xJ S .all i55_r2 (oL .all [(4,none),(5,none)] fun v blk=>ji blk v=some (kR (tY F ls av b c)))) .ret aB ak:=fun aB ak s cc L hL h4 h5 hg=>by
  simp only[go_sem,h4,h5];rw[hL];exact gY hg
 refine bd c55 ?_;simp only[go_sem,i55,w1,w2,xf];have k0:2*av+0=2*av:=rfl;refine O1 g ha Ff hc (k:=0) aa (l:=l) (o:=o) (sg:=sg) ?_ ?_ ?_ ?_ ?_ ?_ ?_ ?_ ?_ ?_ ?_ ?_
 .simp only[go_sem]
 .simp only[go_sem]
 .simp only[go_sem]
 .simp only[go_sem]
 .simp only[go_sem]
 .simp only[go_sem];rfl
 .simp only[go_sem]
 .simp only[go_sem]
 .simp only[go_sem];rfl
 .simp only[go_sem];rfl
 .intro hm aB ak q0 q3 q6 q7 q8 q40 hb;have lC:(b,c)∉(jW F ls (2*av)).places:=hm;simp only[go_sem] at q0 q3 q6 q7 q8;refine O1 g ha Ff hc (k:=1) aa (l:=l) (o:=o) (sg:=sg) q0 q3 q6 q7 q8 q40 ?_ ?_ ?_ ?_ ?_ ?_
  .rw[hb _ ae];simp only[go_sem]
  .rw[hb _ ae];simp only[go_sem]
  .rw[hb _ ae];simp only[go_sem];rfl
  .rw[hb _ ae];simp only[go_sem];rfl
  .intro kB bH aN p0 p3 p6 p7 p8 CV aS;have hr:tY F ls av b c=none:=by unfold tY;rw[if_neg lC,if_neg kB]
   have n0:¬(((1+1:Nat):Int)<2):=ae;refine k8 ?_;simp only[go_sem,i55_l1,i55_r2,CV,n0,hr];rfl
  intro kB bH aN s cc h4 h5 hg;exact o0 bH aN s cc _ (by unfold tY;rw[if_neg lC,if_pos kB];rfl) h4 h5 hg
 intro hm bH aN s cc h4 h5 hg;have lC:(b,c)∈(jW F ls (2*av)).places:=hm;exact o0 bH aN s cc _ (by unfold tY;rw[if_pos lC];rfl) h4 h5 hg
def A2(ls:List Let)(av:Nat)(sg:Int)(o:Bool):List Pc:=cZ (pieces ls) [⟨⟨2,0,0,((aA Let.aC ls/2+1:Nat):Int),sg,o⟩,false⟩,⟨⟨2,0,0,((aA Let.aC ls/2+1:Nat):Int),sg,!o⟩,false⟩] av
theorem acO(g:cS F ls){av:Nat}(ha:av<ls.length){b c:Int}{l o:Bool}{sg:Int}:
  aE S 58 [.one (.p (cE F ls)),fc 5 av b c l o sg] (kR (some (A2 ls av sg o))):=by
 have fD:=g.cr;have tI:=DA F (aA Let.aC ls/2) sg o (.sl (aX (pieces ls))) (.sl (kr (cX F ls))) (.sl (nP (fQ F ls))) (.int .i64 (aA Let.aG ls:Nat)) (.sl (nP (counts ls F))) 1 aa aa;have tJ:=DA F (aA Let.aC ls/2) sg (!o) (.sl (aX (pieces ls))) (.sl (kr (cX F ls))) (.sl (nP (fQ F ls))) (.int .i64 (aA Let.aG ls:Nat)) (.sl (nP (counts ls F))) 1 aa aa;have hlen:=g.len;have abu:=eI ls;have pin:=gD (pieces ls) [⟨⟨2,0,0,((aA Let.aC ls/2+1:Nat):Int),sg,o⟩,false⟩,⟨⟨2,0,0,((aA Let.aC ls/2+1:Nat):Int),sg,!o⟩,false⟩] av aa aa af;have lo:S.lone 3712065280=false:=ah
 refine bd c58 ?_;have c1:((1:Nat):Int)=1:=rfl;rw[c1] at tI tJ;have ft:∀blk:aw,∀s,∀x1 x2 x3 x4 x5 x6 x7:PV,land blk [] s ((RV.agg [.p x1,.p x2,.p x3,.p x4,.p x5,.p x6,.p x7]).fx (S.lone s))=some (.agg [.p x1,.p x2,.p x3,.p x4,.p x5,.p x6,.p x7],[]):=fun blk s x1 x2 x3 x4 x5 x6 x7=>by cases S.lone s<;>rfl
 simp only[go_sem,i58,s90,fp tI (ft _ _ _ _ _ _ _ _ _),fp tJ (ft _ _ _ _ _ _ _ _ _),s86];refine gH pin lo (.inr (eu (eT _))) fun cc aW w gc hb hw=>?_;simp only[go_sem];refine⟨?_,gY gc⟩;rcases hw with rfl|rfl<;>kernel_rfl
def gO(n:Nat)(i:Int):Bool:=decide (0<=i)&&decide (i<(n:Int))
theorem Tz(i:Int)(n:Nat):aE S 53 [vi i,.one (.p (.box [.int .i64 n]))] (rb (gO n i)):=by
 refine bd c53 ?_;unfold gO;by_cases h1:0<=i
 .by_cases h2:i<(n:Int)
  .simp only[go_sem,i53,h1,h2]
  simp only[go_sem,i53,h1,h2]
 simp only[go_sem,i53,h1]
theorem Vj(l:List Let):((si l).all fun e=>e.all PV.scalar)=true:=by simp[Let.ps,PV.scalar]
abbrev rj(F:Nat)(L:List Let):RV:=.tup [.agg [.p (.int .i64 F),bg xu 6 (si L)],.one (.p (.int .i64 0))]
def rJ(F:Nat)(ls:List Let)(k:Int):Option (List Pc)->RV
 |none=>pH 4
 |some L=>if (400:Int)<(ls.length:Int)+(gZ k).1\/(100:Int)<((aA Let.aC ls/2:Nat):Int)+(gZ k).2 then pH 7 else rj F (pW L)
def Gd(l:List Pc)(drop:Nat->Pc->Bool)(i:Nat):Option Pc:=match l[i]? with|some p=>if drop i p then none else some p|none=>none
def uJ(l:List Pc)(drop:Nat->Pc->Bool)(k:Nat):List Pc:=(List.range k).filterMap (Gd l drop)
def se(l:List Pc)(drop:Nat->Pc->Bool):List Pc:=uJ l drop l.length
theorem MZ{l:List Pc}{drop:Nat->Pc->Bool}{k:Nat}{p:Pc}(h:l[k]?=some p)(hd:drop k p=true):uJ l drop (k+1)=uJ l drop k:=by simp[uJ,sL,List.filterMap_append,Gd,h,hd]
theorem M0{l:List Pc}{drop:Nat->Pc->Bool}{k:Nat}{p:Pc}(h:l[k]?=some p)(hd:drop k p=false):uJ l drop (k+1)=uJ l drop k++[p]:=by simp[uJ,sL,List.filterMap_append,Gd,h,hd]
theorem CK(l:List Pc)(drop:Nat->Pc->Bool)(k:Nat):(uJ l drop k).length<=k:=by have:=List.length_filterMap_le (Gd l drop) (List.range k);rwa[List.length_range] at this
theorem wB(g:cS F ls){e:Nat}(he:e<ls.length):aE S 80 [.one (.p (cE F ls)),vi e] (tN (.int .i64 e) (.int .i64 ((e+1)%ls.length:Nat))):=by have hlen:=g.len;have bq:=eI ls;have w1:=bj (n:=e) aa;have e1:=rm (e+1) ls.length;have hz:¬((ls.length:Int)=0):=aa;refine bd c80 ?_;simp only[go_sem,i80,w1,e1,bq,hz];exact⟨ay,rfl⟩
theorem Ww(l:List Pc)(hl:l.length<=1000000){f:Nat}{x y:PV}(hn:x.norm=x/\y.norm=y)(dY:S.shared f=false)(drop:Nat->Pc->Bool)(hd:∀(k:Nat) (p:Pc),l[k]?=some p->aE S f [vi k,.agg (p.ps.map .p),.one (.p x),.one (.p y)] (rb (drop k p))):
  aE S 81 [.one (.p (.sl (aX l))),.one (.p (.fn f [] [x,y]))] (.one (bg fZ 7 (aX (se l drop)))):=by
 obtain⟨eX,fV⟩:=hn;refine bd c81 ?_;simp only[go_sem,i81];refine ck (fun k aj blk=>aj 1=.one (.p (.fn f [] [x,y]))/\aj 8=.one (.p (.sl (aX l)))/\aj 9=vi l.length/\aj 10=vi k/\ ∃c,aj 5=.one c/\grown 5184384192 fZ 7 (aX (uJ l drop k)) (.one c) blk) 0 l.length (bc _) ?_ ?_
 .simp only[go_sem];first|exact⟨rfl,_,rfl,.inl ⟨rfl,rfl⟩⟩|exact⟨_,rfl,.inl ⟨rfl,rfl⟩⟩|exact⟨rfl,rfl,_,rfl,.inl ⟨rfl,rfl⟩⟩
 rintro k aj blk hk ⟨h1,h8,h9,dK,c,h5,gc⟩
 by_cases au:k<l.length
 .have aF:((k:Int)<(l.length:Int)):=aa;obtain⟨p,hp⟩:=aL au;have eF:=fM hp;have w1:=bj (n:=k) aa;have pd:=hd k p hp;have dd:=CK l drop k;simp only[Pc.ps,dE,jj] at pd;cases hb:drop k p with
  |true=>rw[hb] at pd;have hs:=MZ hp hb;simp only[go_sem,i81_l1,h1,h5,h8,h9,dK,au,aF,eF,Pc.ps,eX,fV,dY,bY pd,w1];refine⟨c,rfl,?_⟩;rw[hs];exact gc.of_eq (by simp only[aP,Nat.reduceEqDiff,if_false])
  |false=>rw[hb] at pd;have hs:=M0 hp hb;simp only[go_sem,i81_l1,h1,h5,h8,h9,dK,aF,eF,Pc.ps,eX,fV,dY,bY pd];refine nU (site:=5184384192) (id:=5184384192) (bytes:=56) (xs:=[p.ps]) (rd:=[5184384128]) (gc.of_eq (by simp only[aP,Nat.reduceEqDiff,if_false])) (by simp[eK,aP,Pc.ps]) (.inl rfl) (by simp only[cq,dN,fj];omega) fun c' aW hc hbk=>?_;simp only[go_sem,h1,h8,h9,dK,au,w1];refine⟨c',rfl,?_⟩;rw[hs,IF];exact hc
 have:k=l.length:=aa;subst this;simp only[go_sem,i81_l1,i81_r2,h5,h9,dK,dT];exact tc gc
theorem ag9(l:List Pc)(hl:l.length<=1000000){f:Nat}{x:PV}(hn:x.norm=x)(dY:S.shared f=false)(drop:Nat->Pc->Bool)(hd:∀(k:Nat) (p:Pc),l[k]?=some p->aE S f [vi k,.agg (p.ps.map .p),.one (.p x)] (rb (drop k p))):
  aE S 81 [.one (.p (.sl (aX l))),.one (.p (.fn f [] [x]))] (.one (bg fZ 7 (aX (se l drop)))):=by
 have eX:=hn;refine bd c81 ?_;simp only[go_sem,i81];refine ck (fun k aj blk=>aj 1=.one (.p (.fn f [] [x]))/\aj 8=.one (.p (.sl (aX l)))/\aj 9=vi l.length/\aj 10=vi k/\ ∃c,aj 5=.one c/\grown 5184384192 fZ 7 (aX (uJ l drop k)) (.one c) blk) 0 l.length (bc _) ?_ ?_
 .simp only[go_sem];first|exact⟨rfl,_,rfl,.inl ⟨rfl,rfl⟩⟩|exact⟨_,rfl,.inl ⟨rfl,rfl⟩⟩|exact⟨rfl,rfl,_,rfl,.inl ⟨rfl,rfl⟩⟩
 rintro k aj blk hk ⟨h1,h8,h9,dK,c,h5,gc⟩
 by_cases au:k<l.length
 .have aF:((k:Int)<(l.length:Int)):=aa;obtain⟨p,hp⟩:=aL au;have eF:=fM hp;have w1:=bj (n:=k) aa;have pd:=hd k p hp;have dd:=CK l drop k;simp only[Pc.ps,dE,jj] at pd;cases hb:drop k p with
  |true=>rw[hb] at pd;have hs:=MZ hp hb;simp only[go_sem,i81_l1,h1,h5,h8,h9,dK,au,aF,eF,Pc.ps,eX,dY,bY pd,w1];refine⟨c,rfl,?_⟩;rw[hs];exact gc.of_eq (by simp only[aP,Nat.reduceEqDiff,if_false])
  |false=>rw[hb] at pd;have hs:=M0 hp hb;simp only[go_sem,i81_l1,h1,h5,h8,h9,dK,aF,eF,Pc.ps,eX,dY,bY pd];refine nU (site:=5184384192) (id:=5184384192) (bytes:=56) (xs:=[p.ps]) (rd:=[5184384128]) (gc.of_eq (by simp only[aP,Nat.reduceEqDiff,if_false])) (by simp[eK,aP,Pc.ps]) (.inl rfl) (by simp only[cq,dN,fj];omega) fun c' aW hc hbk=>?_;simp only[go_sem,h1,h8,h9,dK,au,w1];refine⟨c',rfl,?_⟩;rw[hs,IF];exact hc
 have:k=l.length:=aa;subst this;simp only[go_sem,i81_l1,i81_r2,h5,h9,dK,dT];exact tc gc
theorem Qm(k i j:Nat)(p:Pc):aE S 82 [vi k,.agg (p.ps.map .p),.one (.p (.box [.int .i64 i])),.one (.p (.box [.int .i64 j]))] (rb (decide (k=i)||decide (k=j))):=by
 refine bd c82 ?_;by_cases h1:k=i
 .have e1:((k:Int)==(i:Int))=true:=by simp[h1]
  rw[show(decide (k=i)||decide (k=j))=true by simp[h1]];simp only[go_sem,i82,Pc.ps,e1]
 have e1:((k:Int)==(i:Int))=false:=by simp;omega
 by_cases h2:k=j
 .have e2:((k:Int)==(j:Int))=true:=by simp[h2]
  rw[show(decide (k=i)||decide (k=j))=true by simp[h2]];simp only[go_sem,i82,Pc.ps,e1,e2]
 have e2:((k:Int)==(j:Int))=false:=by simp;omega
 rw[show(decide (k=i)||decide (k=j))=false by simp[h1,h2]];simp only[go_sem,i82,Pc.ps,e1,e2]
def zb(a b:Int):Int:=if a<b then b else a
def A4(a b:Int):Int:=if b<a then b else a
def BG(ls:List Let)(av:Nat):Option (List Pc):=
 let p:=(pieces ls).getD av ⟨iK,false⟩
 let q:=(pieces ls).getD ((av+1)%ls.length) ⟨iK,false⟩
 if (p.l.kind==1)&&((q.l.kind==1)&&((p.l.gate==q.l.gate)&&((zb p.l.aO q.l.aO-A4 p.l.aO q.l.aO==1)&& !(decide (aA Let.aG ls<=2)&&decide (0<aA Let.aC ls/2)))))
 then some (ed (se (pieces ls) fun k _=>decide (k=av)||decide (k=(av+1)%ls.length)) p.l.gate (zb p.l.aO q.l.aO) (-2)) else none
theorem M7{l:List Pc}{drop:Nat->Pc->Bool}{p:Pc}(h:p∈se l drop):p∈l:=by
 obtain⟨i,_,hi⟩:=List.mem_filterMap.1 h;unfold Gd at hi;cases hl:l[i]? with
 |none=>rw[hl] at hi;cases hi
 |some q=>
  rw[hl] at hi;simp only at hi;split at hi
  .cases hi
  cases hi;exact ba hl
theorem XK(g:cS F ls){av:Nat}(ha:av<ls.length){k b c:Int}{l o:Bool}{sg:Int}:
  aE S 54 [.one (.p (cE F ls)),fc k av b c l o sg] (kR (BG ls av)):=by
 have hlen:=g.len;have bq:=eI ls;have pe:=wB g ha;have hm:=eJ (av+1) (show 0<ls.length by omega);have kC:=Gw g;obtain⟨p,hp⟩:=aL (ls:=pieces ls) (k:=av) aa;obtain⟨q,hq⟩:=aL (ls:=pieces ls) (k:=(av+1)%ls.length) aa;obtain⟨p1,p2⟩:=kC p (ba hp);obtain⟨q1,q2⟩:=kC q (ba hq);have fP:=fM hp;have lE:=fM hq;have dY:S.shared 83=true:=ah;have lo:S.lone 3456320320=false:=ah;have fD:=g.cr;unfold BG;simp only[cP,hp,hq,kL];refine bd c54 ?_;cases c1:(p.l.kind==1) with
 |false=>
  have n1:(p.l.kind !=1)=true:=by simp[bne,c1]
  simp only[go_sem,i54,s80,cN pe fE,fP,lE,Pc.ps,n1];exact⟨ay,rfl⟩
 |true=>
 have n1:(p.l.kind !=1)=false:=by simp[bne,c1]
 cases c2:(q.l.kind==1) with
 |false=>
  have n2:(q.l.kind !=1)=true:=by simp[bne,c2]
  simp only[go_sem,i54,s80,cN pe fE,fP,lE,Pc.ps,n1,n2];exact⟨ay,rfl⟩
 |true=>
 have n2:(q.l.kind !=1)=false:=by simp[bne,c2]
 cases c3:(p.l.gate==q.l.gate) with
 |false=>
  have n3:(p.l.gate !=q.l.gate)=true:=by simp[bne,c3]
  simp only[go_sem,i54,s80,cN pe fE,fP,lE,Pc.ps,n1,n2,n3];exact⟨ay,rfl⟩
 |true=>
 have n3:(p.l.gate !=q.l.gate)=false:=by simp[bne,c3]
 have qh:(if q.l.aO>p.l.aO then q.l.aO else p.l.aO)=zb p.l.aO q.l.aO:=rfl;have w8:(if q.l.aO<p.l.aO then q.l.aO else p.l.aO)=A4 p.l.aO q.l.aO:=rfl;have hmxb: -1000000<=zb p.l.aO q.l.aO/\zb p.l.aO q.l.aO<=1000000:=by unfold zb;split<;>omega
 have hmnb: -1000000<=A4 p.l.aO q.l.aO/\A4 p.l.aO q.l.aO<=1000000:=by unfold A4;split<;>omega
 have wd:=nE (x:=zb p.l.aO q.l.aO-A4 p.l.aO q.l.aO) aa aa;generalize zb p.l.aO q.l.aO=mx at*;generalize A4 p.l.aO q.l.aO=mn at*;cases c4:(mx-mn==1) with
 |false=>
  have n4:(mx-mn !=1)=true:=by simp[bne,c4]
  simp only[go_sem,i54,s80,cN pe fE,fP,lE,Pc.ps,n1,n2,n3,qh,w8,wd,n4];exact⟨ay,rfl⟩
 |true=>
 have n4:(mx-mn !=1)=false:=by simp[bne,c4]
 have gA:∀(X:Prop),X->X:=fun _ h=>h;by_cases c5:aA Let.aG ls<=2
 .have n5:((aA Let.aG ls:Int)<=2):=aa;by_cases c6:0<aA Let.aC ls/2
  .have n6:((0:Int)<((aA Let.aC ls/2:Nat):Int)):=aa;rw[decide_eq_true c5,decide_eq_true c6];simp only[go_sem,i54,s80,cN pe fE,fP,lE,Pc.ps,n1,n2,n3,qh,w8,wd,n4,n5,n6];exact⟨ay,rfl⟩
  have n6:¬((0:Int)<((aA Let.aC ls/2:Nat):Int)):=aa;rw[decide_eq_true c5,decide_eq_false c6];simp only[go_sem,i54,s80,cN pe fE,fP,lE,Pc.ps,n1,n2,n3,qh,w8,wd,n4,n5,n6,s81];refine⟨ay,?_⟩;refine jz (Ww (pieces ls) aa ⟨rfl,rfl⟩ s82 (fun k _=>decide (k=av)||decide (k=(av+1)%ls.length)) (fun k p _=>Qm k av ((av+1)%ls.length) p)) lo (.inr (eu (eT _))) fun cc aW gc hb=>?_;have b8:=hb 3456128896 ae;have b9:=hb 3456128960 ae;simp only[go_sem] at b8 b9;simp only[go_sem,b8,b9,qh,dY];refine Cd (l:=se (pieces ls) fun k _=>decide (k=av)||decide (k=(av+1)%ls.length)) (mm (CK _ _ _) aa) ae (fun x hx=>kC x (M7 hx)) gc fun aN oR aS=>?_;simp only[go_sem];exact gY oR
 have n5:¬((aA Let.aG ls:Int)<=2):=aa;rw[decide_eq_false c5];simp only[go_sem,i54,s80,cN pe fE,fP,lE,Pc.ps,n1,n2,n3,qh,w8,wd,n4,n5,s81];refine⟨ay,?_⟩;refine jz (Ww (pieces ls) aa ⟨rfl,rfl⟩ s82 (fun k _=>decide (k=av)||decide (k=(av+1)%ls.length)) (fun k p _=>Qm k av ((av+1)%ls.length) p)) lo (.inr (eu (eT _))) fun cc aW gc hb=>?_;have b8:=hb 3456128896 ae;have b9:=hb 3456128960 ae;simp only[go_sem] at b8 b9;simp only[go_sem,b8,b9,qh,dY];refine Cd (l:=se (pieces ls) fun k _=>decide (k=av)||decide (k=(av+1)%ls.length)) (mm (CK _ _ _) aa) ae (fun x hx=>kC x (M7 hx)) gc fun aN oR aS=>?_;simp only[go_sem];exact gY oR
abbrev iP(o:List Int):List (List PV):=o.map fun n=>[PV.int .i64 n]
theorem xl{o:List Int}{k:Nat}{v:Int}(h:o[k]?=some v):(iP o)[k]?=some [.int .i64 v]:=by simp[h]
def uG(o:List Int)(x:Int)(i:Nat):Bool:=match o[i]? with|some y=>y==x|none=>false
theorem abO(o:List Int)(x:Int)(hl:o.length<=1000000):aE S 134 [.one (.p (.sl (iP o))),vi x] (ri (match (List.range o.length).find? (uG o x) with|some k=>(k:Int)|none=> -1)):=by
 refine bd c134 ?_;simp only[go_sem,i134];refine ck (fun k aj blk=>aj 0=.one (.p (.sl (iP o)))/\aj 1=vi x/\aj 7=vi o.length/\aj 8=vi k/\ ∀j,j<k->uG o x j=false) 0 o.length (bc _) ?_ ?_
 .simp only[go_sem];exact⟨rfl,fun j hj=>absurd hj (rC j)⟩
 rintro k aj blk hk ⟨h0,h1,h7,h8,hn⟩
 by_cases au:k<o.length
 .have aF:((k:Int)<(o.length:Int)):=aa;obtain⟨y,hy⟩:=aL au;have eF:=xl hy;have w1:=bj (n:=k) aa;have mC:uG o x k=(y==x):=by simp[uG,hy]
  cases hb:(y==x) with
  |true=>
   have wQ:(x==y)=true:=by have:=beq_iff_eq.1 hb;simp[this]
   rw[hb] at mC;have hf:=ym (p:=uG o x) au hn mC;simp only[go_sem,i134_l1,h0,h1,h7,h8,aF,eF,wQ,hf];first|done|exact ay|rfl
  |false=>
   have wQ:(x==y)=false:=by
    have:¬y=x:=by simpa using hb
    simp;exact fun h=>this h.symm
   rw[hb] at mC;have w9:∀j,j<k+1->uG o x j=false:=fun j hj=>by
    rcases kK.1 hj with h|rfl
    .exact hn j h
    exact mC
   simp only[go_sem,i134_l1,h0,h1,h7,h8,au,aF,eF,wQ,w1];first|exact w9|exact⟨ay,w9⟩
 have:k=o.length:=aa;subst this;have hf:=EG (p:=uG o x) hn;simp only[go_sem,i134_l1,i134_r2,h7,h8,dT,hf]
theorem YL(o:List Int)(x:Int)(hl:o.length<=1000000):aE S 119 [.one (.p (.sl (iP o))),vi x] (rb (o.contains x)):=by
 have pi:=abO o x hl;refine bd c119 ?_;cases hm:o.contains x with
 |true=>
  have Aw:x∈o:=by simpa using hm
  obtain⟨k,hk⟩:=iV Aw;have dd:=(bn.1 hk).1;cases hf:(List.range o.length).find? (uG o x) with
  |none=>have:=DE.1 hf k (iN.2 dd);simp[uG,hk] at this
  |some j=>rw[hf] at pi;have n0:(0:Int)<=(j:Int):=aa;simp only[go_sem,i119,s134,dR pi,n0]
 |false=>
  have Aw:x∉o:=by simpa using hm
  cases hf:(List.range o.length).find? (uG o x) with
  |some j=>
   have h1:=List.find?_some hf;unfold uG at h1;cases ho:o[j]? with
   |none=>rw[ho] at h1;cases h1
   |some y=>
    rw[ho] at h1;have:y=x:=by simpa using h1
    subst this;exact absurd (ba ho) Aw
  |none=>rw[hf] at pi;have n0:¬(0:Int)<= -1:=ae;simp only[go_sem,i119,s134,dR pi,n0]
def ug(ids:List Int)(_:Nat)(p:Pc):Bool:=(p.l.kind==2)&&ids.contains p.l.id
theorem Zf(ids:List Int)(hl:ids.length<=1000000)(k:Nat)(p:Pc):aE S 118 [vi k,.agg (p.ps.map .p),.one (.p (.box [.sl (iP ids)]))] (rb (ug ids k p)):=by
 have pc:=YL ids p.l.id hl;refine bd c118 ?_;unfold ug;cases h:(p.l.kind==2) with
 |true=>simp only[go_sem,i118,Pc.ps,h,s119,bY pc]
 |false=>simp only[go_sem,i118,Pc.ps,h]
end
end Go.Abs
