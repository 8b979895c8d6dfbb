/- A part. -/
import Derived.Test.YtniibcmpbldbcaaGreatDoorWh
set_option linter.all false
set_option maxRecDepth 100000
set_option maxHeartbeats 16000000
namespace Go.Abs
section
variable{F:Nat}{ls:List Let}
theorem abZ{e:List PV}(h:e.length=1):∃x0,e=[x0]:=by
 match e,h with
 |[a],_=>exact⟨a,rfl⟩
theorem ab0{e:List PV}(h:e.length=2):∃x0 x1,e=[x0,x1]:=by
 match e,h with
 |[a,b],_=>exact⟨a,b,rfl⟩
theorem ab1{e:List PV}(h:e.length=7):∃x0 x1 x2 x3 x4 x5 x6,e=[x0,x1,x2,x3,x4,x5,x6]:=by
 match e,h with
 |[a,b,c,d,f,g,i],_=>exact⟨a,b,c,d,f,g,i,rfl⟩
structure xj (es fs:List (List PV)) (k:Nat):Prop where
 len:fs.length=es.length
 at':∀i,i<es.length->fs[i]?=if i<k\/es.length-1-i<k then es[es.length-1-i]? else es[i]?
theorem xj.start(es:List (List PV)):xj es es 0:=⟨rfl,fun i _=>by rw[if_neg aa]⟩
theorem xj.step{es fs:List (List PV)}{k:Nat}{a b:List PV}(h:xj es fs k)(hk:k<es.length-1-k)(ha:es[k]?=some a)(hb:es[es.length-1-k]?=some b):
  fs[k]?=some a/\fs[es.length-1-k]?=some b/\xj es ((fs.set k b).set (es.length-1-k) a) (k+1):=by
 have hlen:=h.len;refine⟨?_,?_,⟨by rw[nX,nX];exact hlen,fun i hi=>?_⟩⟩
 .rw[h.at' k aa,if_neg aa,ha]
 .rw[h.at' _ aa,if_neg aa,hb]
 rw[mT,nX];by_cases e1:es.length-1-k=i
 .rw[if_pos e1,if_pos aa,if_pos aa,show es.length-1-i=k by omega,ha]
 rw[if_neg e1,mT];by_cases e2:k=i
 .subst e2;rw[if_pos rfl,if_pos aa,if_pos aa,hb]
 rw[if_neg e2,h.at' i hi];by_cases e3:i<k\/es.length-1-i<k
 .rw[if_pos e3,if_pos aa]
 rw[if_neg e3,if_neg aa]
theorem xj.done{es fs:List (List PV)}{k:Nat}(h:xj es fs k)(hk:¬k<es.length-1-k):fs=es.reverse:=by
 refine xx fun i=>?_;rcases Nat.lt_or_ge i es.length with hi|hi
 .rw[h.at' i hi,List.getElem?_reverse hi];by_cases e:i<k\/es.length-1-i<k
  .rw[if_pos e]
  rw[if_neg e,show es.length-1-i=i by omega]
 rw[mS (by rw[h.len];exact hi),mS (by rw[xy];exact hi)]
def GO(id ty z:Nat)(es:List (List PV))(c:C)(blk:aB)(v:V)(ak:aB):Prop:=v=.tup []/\grown id ty z es.reverse (.one c) ak/\Kept (· =id) blk ak
theorem adK{al:Al}{blk:aB}{id ty:Nat}{es:List (List PV)}{c:C}(o:es=[]\/al.ok id=true)(hl:es.length<=1000000)(jU:∀e∈es,e.length=1/\ ∀v∈e,v.norm=v)(h:grown id ty 1 es (.one c) blk):
  ∃v ak,jd S 89 [.one c] al blk v ak/\GO id ty 1 es c blk v ak:=by
 refine oY c89 (hU rfl) ?_;rcases h with ⟨rfl,h2⟩|⟨aK,g,h2,hC⟩
 .cases h2;have w0:IntKind.i64.wrap (((0:Nat):Int)-1)= -1:=ae;have hz:¬((0:Int)< -1):=ae;simp only[go_sem,i89,w0];refine cQ (fun k aj ak=>k=0/\aj 2=vi 0/\aj 3=vi (-1)/\ak=blk) 0 0 (aZ _) ?_ ?_
  .simp only[go_sem]
  rintro k aj ak _ ⟨rfl,h2,h3,rfl⟩
  simp only[go_sem,i89_l1,h2,h3,hz];exact⟨rfl,.inl ⟨rfl,rfl⟩,fun _ _=>rfl⟩
 cases h2;have o:=o.resolve_left aK;have w0:=vK (a:=es.length) aa;simp only[go_sem,i89,w0];refine cQ (fun k aj ak=>aj 0=.one (.hsl id g 1 0 es.length)/\aj 2=vi k/\aj 3=vi ((es.length:Int)-1-(k:Int))/\ ∃fs,ak id=(g,some (.arr ty 1 fs))/\xj es fs k/\Kept (· =id) blk ak) 0 es.length (aY _) ?_ ?_
 .simp only[go_sem];refine⟨rfl,af,es,hC,xj.start es,Kept.refl _ _⟩
 rintro k aj ak hk ⟨h0,h2,h3,fs,hF,hI,cU⟩
 by_cases aq:k<es.length-1-k
 .have e1:((es.length:Int)-1-(k:Int))=((es.length-1-k:Nat):Int):=aa;rw[e1] at h3;have aJ:((k:Int)<((es.length-1-k:Nat):Int)):=aa;have w1:=bG (n:=k) aa;have w2:IntKind.i64.wrap (((es.length-1-k:Nat):Int)-1)=((es.length:Int)-1-((k+1:Nat):Int)):=by
   rw[vK aa];omega
  obtain⟨a,ha⟩:=aI (show k<es.length by omega);obtain⟨b,hb⟩:=aI (show es.length-1-k<es.length by omega);obtain⟨fa,fb,wJ⟩:=hI.step aq ha hb;obtain⟨la,na⟩:=jU a (aQ ha);obtain⟨lb,nb⟩:=jU b (aQ hb);obtain⟨x0,rfl⟩:=abZ la;obtain⟨y0,rfl⟩:=abZ lb;have Mn:=na x0 af;have Mo:=nb y0 af;have qu:=hI.len;have F7:¬(k=es.length-1-k):=aa;have aa8:¬(es.length-1-k=k):=aa;have l1:k<fs.length:=aa;have l2:es.length-1-k<fs.length:=aa;have l3:k<es.length:=aa;have l4:es.length-1-k<es.length:=aa;simp only[go_sem,i89_l1,h0,h2,h3,hF,aJ,fa,fb,w1,w2,o,l1,l3,l4,F7,Mn,Mo,mT];refine⟨aD,_,rfl,wJ,?_⟩;exact(cU.cZ rfl _).cZ rfl _
 have aJ:¬((k:Int)<(es.length:Int)-1-(k:Int)):=aa;simp only[go_sem,i89_l1,h2,h3,aJ];refine⟨rfl,?_,cU⟩;rw[hI.done aq] at hF;exact .inr ⟨by simpa using aK,g,by rw[xy],hF⟩
theorem aoG{al:Al}{blk:aB}{id ty:Nat}{es:List (List PV)}{c:C}(o:es=[]\/al.ok id=true)(hl:es.length<=1000000)(jU:∀e∈es,e.length=2/\ ∀v∈e,v.norm=v)(h:grown id ty 2 es (.one c) blk):
  ∃v ak,jd S 103 [.one c] al blk v ak/\GO id ty 2 es c blk v ak:=by
 refine oY c103 (hU rfl) ?_;rcases h with ⟨rfl,h2⟩|⟨aK,g,h2,hC⟩
 .cases h2;have w0:IntKind.i64.wrap (((0:Nat):Int)-1)= -1:=ae;have hz:¬((0:Int)< -1):=ae;simp only[go_sem,i103,w0];refine cQ (fun k aj ak=>k=0/\aj 2=vi 0/\aj 3=vi (-1)/\ak=blk) 0 0 (aZ _) ?_ ?_
  .simp only[go_sem]
  rintro k aj ak _ ⟨rfl,h2,h3,rfl⟩
  simp only[go_sem,i103_l1,h2,h3,hz];exact⟨rfl,.inl ⟨rfl,rfl⟩,fun _ _=>rfl⟩
 cases h2;have o:=o.resolve_left aK;have w0:=vK (a:=es.length) aa;simp only[go_sem,i103,w0];refine cQ (fun k aj ak=>aj 0=.one (.hsl id g 2 0 es.length)/\aj 2=vi k/\aj 3=vi ((es.length:Int)-1-(k:Int))/\ ∃fs,ak id=(g,some (.arr ty 2 fs))/\xj es fs k/\Kept (· =id) blk ak) 0 es.length (aY _) ?_ ?_
 .simp only[go_sem];refine⟨rfl,af,es,hC,xj.start es,Kept.refl _ _⟩
 rintro k aj ak hk ⟨h0,h2,h3,fs,hF,hI,cU⟩
 by_cases aq:k<es.length-1-k
 .have e1:((es.length:Int)-1-(k:Int))=((es.length-1-k:Nat):Int):=aa;rw[e1] at h3;have aJ:((k:Int)<((es.length-1-k:Nat):Int)):=aa;have w1:=bG (n:=k) aa;have w2:IntKind.i64.wrap (((es.length-1-k:Nat):Int)-1)=((es.length:Int)-1-((k+1:Nat):Int)):=by
   rw[vK aa];omega
  obtain⟨a,ha⟩:=aI (show k<es.length by omega);obtain⟨b,hb⟩:=aI (show es.length-1-k<es.length by omega);obtain⟨fa,fb,wJ⟩:=hI.step aq ha hb;obtain⟨la,na⟩:=jU a (aQ ha);obtain⟨lb,nb⟩:=jU b (aQ hb);obtain⟨x0,x1,rfl⟩:=ab0 la;obtain⟨y0,y1,rfl⟩:=ab0 lb;have Mn:=na x0 af;have Us:=na x1 af;have Mo:=nb y0 af;have Ut:=nb y1 af;have qu:=hI.len;have F7:¬(k=es.length-1-k):=aa;have aa8:¬(es.length-1-k=k):=aa;have l1:k<fs.length:=aa;have l2:es.length-1-k<fs.length:=aa;have l3:k<es.length:=aa;have l4:es.length-1-k<es.length:=aa;simp only[go_sem,i103_l1,h0,h2,h3,hF,aJ,fa,fb,w1,w2,o,l1,l3,l4,F7,Mn,Us,Mo,Ut,mT];refine⟨aD,_,rfl,wJ,?_⟩;exact(cU.cZ rfl _).cZ rfl _
 have aJ:¬((k:Int)<(es.length:Int)-1-(k:Int)):=aa;simp only[go_sem,i103_l1,h2,h3,aJ];refine⟨rfl,?_,cU⟩;rw[hI.done aq] at hF;exact .inr ⟨by simpa using aK,g,by rw[xy],hF⟩
structure Swo {α:Type} (lt:α->α->Bool):Prop where
 asym:∀a b,lt a b=true->lt b a=false
 ntrans:∀a b c,lt b a=false->lt c b=false->lt c a=false
def vQ{α:Type}(lt:α->α->Bool)(ws:List α)(a b:Nat):Prop:=∀p q x y,a<=p->p<q->q<b->ws[p]?=some x->ws[q]?=some y->lt y x=false
structure yM {α:Type} (lt:α->α->Bool) (zs ws:List α) (x:α) (a i j:Nat):Prop where
 perm:ws.Perm zs
 le:a<=j/\j<=i/\i<ws.length
 at':ws[j]?=some x
 up:∀p y,j<p->p<=i->ws[p]?=some y->lt x y=true
 so:∀p q y z,a<=p->p<q->q<=i->p≠j->q≠j->ws[p]?=some y->ws[q]?=some z->lt z y=false
 out:∀p,p<a\/i<p->ws[p]?=zs[p]?
theorem yM.start{α:Type}{lt:α->α->Bool}{zs:List α}{x:α}{a i:Nat}(ha:a<=i)(hi:zs[i]?=some x)(hs:vQ lt zs a i):yM lt zs zs x a i i:=
 ⟨.refl _,⟨ha,aZ _,(aV.1 hi).1⟩,hi,fun p y h1 h2=>aa,fun p q y z h0 h1 h2 h3 h4=>hs p q y z h0 h1 aa,fun _ _=>rfl⟩
theorem swap_perm{α:Type}{ws:List α}{i j:Nat}{x y:α}(hi:ws[i]?=some x)(hj:ws[j]?=some y):((ws.set i y).set j x).Perm ws:=by obtain⟨h1,e1⟩:=aV.1 hi;obtain⟨h2,e2⟩:=aV.1 hj;have:=List.set_set_perm h1 h2;rwa[e1,e2] at this
theorem yM.step{α:Type}{lt:α->α->Bool}{zs ws:List α}{x y:α}{a i j:Nat}(o:Swo lt)(h:yM lt zs ws x a i (j+1))(hj:a<=j)(hy:ws[j]?=some y)(aq:lt x y=true):
  yM lt zs ((ws.set (j+1) y).set j x) x a i j:=by
 obtain⟨hp,⟨_,hle,hl⟩,gh,sk,yl,l9⟩:=h;have zA:j<ws.length:=(aV.1 hy).1;have get:∀p,((ws.set (j+1) y).set j x)[p]?=if p=j then some x else if p=j+1 then some y else ws[p]? :=fun p=>by
  rw[mT,mT,nX];by_cases e1:j=p
  .subst e1;simp[zA]
  by_cases e2:j+1=p
  .subst e2;have:¬(j+1=j):=aa;rw[if_neg e1,if_pos rfl,if_pos aa,if_neg this,if_pos rfl]
  rw[if_neg e1,if_neg e2,if_neg (fun h=>e1 h.symm),if_neg (fun h=>e2 h.symm)]
 refine⟨(swap_perm gh hy).trans hp,⟨hj,aa,by simp;omega⟩,by rw[get];simp,?_,?_,?_⟩
 .intro p z h1 h2 hz;rw[get,if_neg aa] at hz;by_cases e:p=j+1
  .rw[if_pos e] at hz;cases hz;exact aq
  rw[if_neg e] at hz;exact sk p z aa h2 hz
 .intro p q u v h0 h1 h2 h3 h4 hu hv;rw[get,if_neg h3] at hu;rw[get,if_neg h4] at hv;by_cases e:p=j+1
  .rw[if_pos e] at hu;cases hu;rw[if_neg aa] at hv;exact yl j q _ _ hj aa h2 aa aa hy hv
  rw[if_neg e] at hu;by_cases e2:q=j+1
  .rw[if_pos e2] at hv;cases hv;exact yl p j _ _ h0 aa aa e aa hu hy
  rw[if_neg e2] at hv;exact yl p q _ _ h0 h1 h2 e e2 hu hv
 intro p ez;rw[get,if_neg aa,if_neg aa,l9 p ez]
theorem yM.stop{α:Type}{lt:α->α->Bool}{zs ws:List α}{x:α}{a i j:Nat}(o:Swo lt)(h:yM lt zs ws x a i j)(hj:j=a\/ ∃y,a<j/\ws[j-1]?=some y/\lt x y=false):vQ lt ws a (i+1):=by
 obtain⟨hp,⟨hja,hle,hl⟩,gh,sk,yl,l9⟩:=h;intro p q u v h0 h1 h2 hu hv;by_cases e:q=j
 .subst e;rw[gh] at hv;cases hv;rcases hj with hj|⟨y,vt,hy,kr⟩
  .omega
  by_cases e3:p=q-1
  .subst e3;rw[hy] at hu;cases hu;exact kr
  exact o.ntrans _ _ _ (yl p (q-1) _ _ h0 aa aa aa aa hu hy) kr
 by_cases e2:p=j
 .subst e2;rw[gh] at hu;cases hu;exact o.asym _ _ (sk q v h1 aa hv)
 exact yl p q u v h0 h1 aa e2 e hu hv
theorem vQ.mono{α:Type}{lt:α->α->Bool}{ws:List α}{a b c:Nat}(h:vQ lt ws a c)(hb:b<=c\/ws.length<=c):vQ lt ws a b:=fun p q x y h0 h1 h2 hx hy=>h p q x y h0 h1 (by
 rcases hb with hb|hb
 .omega
 have:=(aV.1 hy).1;omega) hx hy
theorem vQ.pair{α:Type}{lt:α->α->Bool}{ws:List α}(h:vQ lt ws 0 ws.length):ws.Pairwise fun x y=>lt y x=false:=by rw[NH];intro i j hi hj fQ;exact h i j _ _ (aY _) fQ hj (oQ hi) (oQ hj)
abbrev tZ(a b:Int):Bool:=decide (a<b)
theorem We:Swo tZ:=⟨fun a b h=>by simp at*;omega,fun a b c h k=>by simp at*;omega⟩
theorem PW{site ty z:Nat}{es:List (List PV)}{c:C}{blk:aB}(h:grown site ty z es (.one c) blk):(es=[]/\mh blk (.one c)=[])\/mh blk (.one c)=[site]:=by
 rcases h with ⟨h1,h2⟩|⟨h1,g,h2,h3⟩
 .cases h2;exact .inl ⟨h1,VG⟩
 cases h2;exact .inr (show mB blk 6 (.hsl site g z 0 es.length)=[site] from JM (n:=5) h3)
section
variable {al:Al} {Q:ef} {aj:Env} {blk:aB} {os:List ch} {d:Option Nat}
theorem aaz{f id ty z:Nat}{es:List (List PV)}{c:C}(UF:∀ {al:Al} {blk:aB},es=[]\/al.ok id=true->grown id ty z es (.one c) blk->∃v ak,jd S f [.one c] al blk v ak/\GO id ty z es c blk v ak)(hs:S.sites f=[f])(hg:grown id ty z es (.one c) blk)(oid:al.ok id=true)(hf:al.fs.contains f=true)
  (hK:∀ak,grown id ty z es.reverse (.one c) ak->(∀i,i≠id->ak i=blk i)->RN S al os Q (put aj d (.tup [])) ak):gP S al (.sc f [.one c]) d os Q aj blk:=by
 refine wD (P:=GO id ty z es c blk) (holds_of ?_ ?_) (UF ?_ hg) ?_
 .show al.gG ([V.one c].map (mh blk)).flatten=true;rcases PW hg with ⟨_,h⟩|h
  .simp[h,Al.gG]
  simp[h,Al.gG,oid]
 .show(S.sites f).all al.fs.contains=true;rw[hs];simp only[uT,yH,hf,Fl]
 .rcases PW hg with ⟨h,_⟩|h
  .exact .inl h
  exact .inr (BA (by simp[h]))
 rintro v ak ⟨rfl,h1,h2⟩
 exact hK ak h1 h2
end
theorem apO:S.sites 103=[103]:=ah
theorem apN:S.sites 89=[89]:=ah
theorem Nt(ok:eP F ls){x:Nat}(h:x<nD ls):aO ls x<nD ls:=Qu ok.jT ok.hp h
abbrev sA(id:Nat):Prop:=nQ id=66
structure FE (ls:List Let) (idS gS idB gB g8 gF:Nat) (sp:List Bool) (f:Fc) (cd cp cf:C) (blk:aB):Prop where
 bS:blk idS=(gS,some (.arr 4 1 (bP sp)))
 bB:blk idB=(gB,some (.arr 4 1 (bP (BJ ls))))
 b8:blk 4224000000=(g8,some (.var [.p (.bool false),.p .nils,.p .nils,.p .nils,.p (.bool false)]))
 bF:blk 4224128448=(gF,some (.var [.p (.bool f.ek),cd,cp,cf,.p (.bool f.outer)]))
 gd:grown 4224512256 3 1 (nP f.dd) (.one cd) blk
 gp:grown 4224896192 CP 2 (jF f.places) (.one cp) blk
 gf:grown 4224896448 3 1 (nP f.wx) (.one cf) blk
theorem af4(ok:eP F ls){f:Fc}{x k:Nat}(hx:x<nD ls)(h:f.dd.length<=k/\f.places.length<=k*(2*F+2)/\f.wx.length<=k*(2*F+2)):(f.add F ls x).dd.length<=k+1/\(f.add F ls x).places.length<=(k+1)*(2*F+2)/\(f.add F ls x).wx.length<=(k+1)*(2*F+2):=by
 obtain⟨i1,i2,i3⟩:=h;rw[Nat.succ_mul];unfold Fc.add;by_cases h:x<2*ls.length
 .rw[if_pos h];simp only[fc,cE,dQ];exact⟨aa,aa,aa⟩
 rw[if_neg h];have hj:(x-2*ls.length)/2<(aC ls).length:=by unfold nD at hx;omega
 have l1:=Vn ok hj;have l2:=Vm ok hj;refine⟨by simp only;omega,?_,?_⟩
 .simp only[fc];split<;>(try rw[xy])<;>omega
 simp only[fc];split<;>(try rw[xy])<;>omega
theorem ai3{al:Al}(ok:eP F ls)(hF:F<=1000)(okf:∀id,sA id->al.ok id=true){idS gS idB gB g8 gF d:Nat}(oS:al.ok idS=true)(nS:¬sA idS)(nB:¬sA idB)(nSB:idS≠idB)(f1:al.fs.contains 103=true)(f2:al.fs.contains 89=true)(hd:d<2*ls.length){Q:ef}:
  ∀(fuel k x:Nat) (gO:List Bool) (f:Fc) (aj:Env) (blk:aB) (cd cp cf:C),aj 0=.one (.p (tH F ls))->aj 2=.one (.hsl idS gS 1 0 (2*ls.length))->aj 8=.one (.bt 4224000000 g8 0)->aj 9=vi ls.length->aj 10=vi (aC ls).length->aj 11=.one (.bt 4224128448 gF 0)->aj 12=vi x->
   FE ls idS gS idB gB g8 gF (gO.take (2*ls.length)) f cd cp cf blk->gO.length=nD ls->x<nD ls->Inv (aO ls) (nD ls) d gO x->yF gO<fuel->(k+fuel<=5000000)->(f.dd.length<=k/\f.places.length<=k*(2*F+2)/\f.wx.length<=k*(2*F+2))->
   (∀aE ak vW mY vX,aE 8=aj 8->aE 11=aj 11->FE ls idS gS idB gB g8 gF ((eZ (aO ls) fuel x gO).2.take (2*ls.length)) ((eZ (aO ls) fuel x gO).1.foldl (Fc.add F ls) f) vW mY vX ak->(∀id,¬(sA id\/id=idS)->ak id=blk id)->Q .normal aE ak)->
   W S al (.loop i66_l1) (rG 0 Q) aj blk:=by
 have hl:=ok.hl;have iK:(aC ls).length<=1000000:=mU (uy ls ls.length) hl;have im:nD ls<=4000000:=by unfold nD;omega
 have m2:=qF (a:=ls.length) aa;have k0:al.ok 4224000000=true:=okf _ rfl;have kF:al.ok 4224128448=true:=okf _ rfl;have kd0:al.ok 4224512192=true:=okf _ rfl;have kd:al.ok 4224512256=true:=okf _ rfl;have kp:al.ok 4224896192=true:=okf _ rfl;have kf:al.ok 4224896448=true:=okf _ rfl;have kr1:al.ok 4224640128=true:=okf _ rfl;have kr2:al.ok 4224640129=true:=okf _ rfl;have hm:=maps ok;intro fuel
 induction fuel with
 |zero=>intro k x gO f aj blk cd cp cf _ _ _ _ _ _ _ _ _ _ _ h;omega
 |succ fuel ih=>
  intro k x gO f aj blk cd cp cf h0 h2 h8 h9 dm eF iH hB DS vr hi hu hk hlen hq;have hle:=hm.le;obtain⟨l1,l2,l3⟩:=hlen;have aj5:k*(2*F+2)<=5000000*2002:=Nat.mul_le_mul aa aa;have Eh:=af4 ok vr ⟨l1,l2,l3⟩;unfold eZ at hq;have nSi:∀ {a:Nat},sA a->a≠idS:=fun h e=>nS (e▸h);have nBi:∀ {a:Nat},sA a->a≠idB:=fun h e=>nB (e▸h);have nF:¬(4224128448=idS):=nSi rfl;refine oU ?_;cases hs:gO.getD x true with
  |true=>
   have hxd:=hi.i4 hs;have aq:x<2*ls.length:=aa;have aJ:((x:Int)<((2*ls.length:Nat):Int)):=aa;rw[hs] at hq;simp only[if_true] at hq;have hb:(gO.take (2*ls.length))[x]?=some true:=by
    have h1:=VY aq (show 2*ls.length<=gO.length by omega);rw[show sn gO x=true from hs,cJ] at h1;have zJ:x<(gO.take (2*ls.length)).length:=by rw[fJ];omega
    obtain⟨b,hb⟩:=aI zJ;rw[hb] at h1 ⊢;exact congrArg some h1
   have od:=tD hb;simp only[go_sem,i66_l1,h0,h2,h9,iH,m2,aJ,aq,hB.bS,od,oS];exact hq _ _ cd cp cf (by simp only[go_sem]) (by simp only[go_sem]) hB (fun _ _=>rfl)
  |false=>
   have I4:gO[x]?=some false:=by
    rw[cJ] at hs;cases h1:gO[x]? with
    |none=>rw[h1] at hs;cases hs
    |some b=>rw[h1] at hs;exact congrArg some hs
   have Ez:=Nu I4;have pt:=Yv ok x (by unfold nD at vr;exact vr);have cA:=hi.step hm DS vr hs;rw[hs] at hq;simp only[eY,if_false,uW] at hq;by_cases ya:x<2*ls.length
   .have aJ:((x:Int)<((2*ls.length:Nat):Int)):=aa;have hb:(gO.take (2*ls.length))[x]?=some false:=by rw[jm,if_pos ya];exact I4
    have od:=tD hb;have km:=HF (gO.take (2*ls.length)) x true;rw[aeU] at km;have ajX:f.add F ls x={f with dd:=f.dd++[x]}:=by unfold Fc.add;rw[if_pos ya]
    simp only[go_sem,i66_l1,h2,h9,eF,iH,m2,aJ,ya,hB.bS,hB.bF,od,km,oS,kF,kd0,nF];refine OG (site:=4224512256) (id:=4224512256) (bytes:=8) (xs:=[[.int .i64 (x:Int)]]) (rd:=[4224512192]) (by simp[kd,kd0]) (hB.gd.of_eq ((aN ae).trans (aN (nSi rfl)))) (by simp[eT,aS]) (.inl rfl) (by simp only[cF,cE,dQ];omega) fun c aT hc aU=>?_;have II:∀i,i≠4224512192->i≠4224512256->i≠idS->aT i=blk i:=fun i a b c=>(aU i b b).trans ((aN a).trans (aN c))
    have akk:=(aU idS (nSi rfl).symm (nSi rfl).symm).trans ((aN (nSi rfl).symm).trans rz);have FB:=(II 4224128448 ae ae (nSi rfl)).trans hB.bF;simp only[go_sem,FB,h0,eF,iH,kF,s101,FV pt];refine ih (k+1) (aO ls x) (gO.set x true) (f.add F ls x) _ _ c cp cf ?_ ?_ ?_ ?_ ?_ ?_ ?_ ?_ (by rw[nX];exact DS) (Nt ok vr) cA aa aa Eh ?_
    .simp only[go_sem,h0]
    .simp only[go_sem,h2]
    .simp only[go_sem,h8]
    .simp only[go_sem,h9]
    .simp only[go_sem,dm]
    .simp only[go_sem,eF]
    .simp only[go_sem]
    .rw[ajX];refine⟨?_,?_,?_,rz,?_,?_,?_⟩
     .exact(aN (nSi rfl).symm).trans akk
     .exact(aN (nBi rfl).symm).trans ((II _ (nBi rfl).symm (nBi rfl).symm nSB.symm).trans hB.bB)
     .exact(aN ae).trans ((II _ ae ae (nSi rfl)).trans hB.b8)
     .exact(Jq _ _▸hc.of_eq (aN ae))
     .exact(hB.gp.of_eq (II _ ae ae (nSi rfl))).of_eq (aN ae)
     exact(hB.gf.of_eq (II _ ae ae (nSi rfl))).of_eq (aN ae)
    intro aE ak vW mY vX q8 yA tO cU;refine hq aE ak vW mY vX (by rw[q8];simp only[go_sem]) (by rw[yA];simp only[go_sem]) tO fun id hn=>?_;have a:∀y,sA y->id≠y:=fun y hy e=>hn (.inl (e▸hy));exact(cU id hn).trans ((aN (a _ rfl)).trans (II id (a _ rfl) (a _ rfl) fun e=>hn (.inr e)))
   have hj:(x-2*ls.length)/2<(aC ls).length:=by unfold nD at vr;omega
   have vl:=aoI ok hF hj;have lP:=Vn ok hj;have lF:=Vm ok hj;have F0:¬((x:Int)<((2*ls.length:Nat):Int)):=aa;have ws:=Wv (a:=x) (b:=2*ls.length) aa aa;have wq:=wrap_small (n:=(x-2*ls.length)/2) aa;have w2:=G0 (a:=(aC ls).length) aa aa;have OP:((((x-2*ls.length)/2:Nat):Int)==(((aC ls).length-1:Nat):Int))=decide ((x-2*ls.length)/2+1=(aC ls).length):=by
    by_cases h:(x-2*ls.length)/2+1=(aC ls).length
    .rw[decide_eq_true h];simp;omega
    rw[decide_eq_false h];simp;omega
   have l9:(f.add F ls x).outer=(f.outer||decide ((x-2*ls.length)/2+1=(aC ls).length)):=by unfold Fc.add;rw[if_neg ya]
   have Lt:(f.add F ls x).ek=f.ek:=by unfold Fc.add;rw[if_neg ya]
   have LP:(f.add F ls x).dd=f.dd:=by unfold Fc.add;rw[if_neg ya]
   have Gf:(f.add F ls x).places=f.places++(if x%2=0 then pX F ls ((x-2*ls.length)/2) else (pX F ls ((x-2*ls.length)/2)).reverse):=by unfold Fc.add;rw[if_neg ya]
   have D0:(f.add F ls x).wx=f.wx++(if x%2=0 then CO F ls ((x-2*ls.length)/2) else (CO F ls ((x-2*ls.length)/2)).reverse):=by unfold Fc.add;rw[if_neg ya]
   generalize f.add F ls x=f' at l9 Lt LP Gf D0 hq Eh;have pP:S.lone 4224640128=false:=ah;have sc1:∀l:List (Nat×Nat),((jF l).all fun e=>e.all PV.scalar)=true:=fun l=>by simp[PV.scalar]
   have sc2:∀l:List Nat,((nP l).all fun e=>e.all PV.scalar)=true:=fun l=>by simp[PV.scalar]
   have hnP:∀l:List (Nat×Nat),∀e∈jF l,e.length=2/\ ∀v∈e,v.norm=v:=fun l e he=>by obtain⟨a,_,rfl⟩:=dr.1 he;exact⟨rfl,fun v hv=>by simp at hv;rcases hv with rfl|rfl<;>rfl⟩
   have hnF:∀l:List Nat,∀e∈nP l,e.length=1/\ ∀v∈e,v.norm=v:=fun l e he=>by obtain⟨a,_,rfl⟩:=dr.1 he;exact⟨rfl,fun v hv=>by simp at hv;rcases hv with rfl;rfl⟩
   have jw:S.shared 103=true:=ah;have shI:S.shared 89=true:=ah;have oi:(gO.set x true).take (2*ls.length)=gO.take (2*ls.length):=aeT aa;generalize pX F ls ((x-2*ls.length)/2)=PP at*;generalize CO F ls ((x-2*ls.length)/2)=FF at*;simp only[go_sem,i66_l1,h0,h9,iH,m2,F0,ws,wq,eD,fy,s102];refine ajE (by simp[kr1,kr2]) vl pP (sc1 _) (sc2 _) fun c e bc hc he hb=>?_;by_cases dD:x%2=0
   .have Ux:((x:Int).tmod 2==1)=false:=by rw[jG,dD];rfl
    rw[if_pos dD] at Gf D0;have hP:=hc;have hE:=he;have B9:∀i,i≠4224640128->i≠4224640129->bc i=blk i:=hb;have bFN:=(B9 4224128448 ae ae).trans hB.bF;simp only[go_sem,eD,Ux,bFN,eF,iH,kF];obtain⟨rP,hxP,Gk⟩:=hP.elems;refine N5 (site:=4224896192) (id:=4224896192) (bytes:=16) (by rcases Gk with rfl|rfl<;>simp[kp,kr1]) (hB.gp.of_eq (B9 _ ae ae)) hxP hP.fM (by simp only[cF];omega) fun c2 qf r1 u1 qP kh dI=>?_
    have FB:=(kh 4224128448 ae ae).trans bFN;simp only[go_sem,FB,eF,kF];obtain⟨rE,hxE,Gj⟩:=(hE.of_eq (kh _ ae ae)).elems;refine N5 (site:=4224896448) (id:=4224896448) (bytes:=8) (by rcases Gj with rfl|rfl<;>simp[kf,kr2]) (hB.gf.of_eq ((kh _ ae ae).trans (B9 _ ae ae))) hxE hE.fM (by simp only[cF];omega) fun c3 Ag r2 u2 LG xW nH=>?_
    have BH:=(xW 4224128448 ae ae).trans FB;have eK:∀i,i≠4224640128->i≠4224640129->i≠4224896192->i≠4224896448->Ag i=blk i:=fun i a b c d=>(xW i d d).trans ((kh i c c).trans (B9 i a b));have LF:grown 4224896192 CP 2 (jF f'.places) (.one c2) Ag:=by rw[Gf,JC];exact qP.of_eq (xW _ ae ae)
    have LH:grown 4224896448 3 1 (nP f'.wx) (.one c3) Ag:=by rw[D0,Jq];exact LG
    clear qP LG;cases ho:f.outer with
    |true=>
     rw[ho] at BH;simp only[go_sem,BH,h0,eF,iH,kF,s101,FV pt];refine⟨?_,?_⟩
     .rcases Gk with rfl|rfl<;>rcases Gj with rfl|rfl<;>rcases dI with ⟨rfl,rfl⟩|⟨rfl,rfl⟩|⟨rfl,rfl⟩<;>rcases nH with ⟨rfl,rfl⟩|⟨rfl,rfl⟩|⟨rfl,rfl⟩<;>kernel_rfl
     refine ih (k+1) (aO ls x) (gO.set x true) f' _ _ cd c2 c3 ?_ ?_ ?_ ?_ ?_ ?_ ?_ ?_ (by rw[nX];exact DS) (Nt ok vr) cA aa aa Eh ?_
     .simp only[go_sem,h0]
     .simp only[go_sem,h2]
     .simp only[go_sem,h8]
     .simp only[go_sem,h9]
     .simp only[go_sem,dm]
     .simp only[go_sem,eF]
     .simp only[go_sem]
     .rw[oi];refine⟨?_,?_,?_,?_,?_,?_,?_⟩
      .exact(aN (nSi rfl).symm).trans ((aN (nSi rfl).symm).trans ((aN (nSi rfl).symm).trans ((eK _ (nSi rfl).symm (nSi rfl).symm (nSi rfl).symm (nSi rfl).symm).trans hB.bS)))
      .exact(aN (nBi rfl).symm).trans ((aN (nBi rfl).symm).trans ((aN (nBi rfl).symm).trans ((eK _ (nBi rfl).symm (nBi rfl).symm (nBi rfl).symm (nBi rfl).symm).trans hB.bB)))
      .exact(aN ae).trans ((aN ae).trans ((aN ae).trans ((eK _ ae ae ae ae).trans hB.b8)))
      .rw[rz,Lt,l9,ho];rfl
      .rw[LP];exact hB.gd.of_eq ((aN ae).trans ((aN ae).trans ((aN ae).trans (eK _ ae ae ae ae))))
      .exact LF.of_eq ((aN ae).trans ((aN ae).trans (aN ae)))
      exact LH.of_eq ((aN ae).trans ((aN ae).trans (aN ae)))
     intro aE ak vW mY vX q8 yA tO cU;refine hq aE ak vW mY vX (by rw[q8];simp only[go_sem]) (by rw[yA];simp only[go_sem]) tO fun id hn=>?_;have a:∀y,sA y->id≠y:=fun y hy e=>hn (.inl (e▸hy));exact(cU id hn).trans ((aN (a _ rfl)).trans ((aN (a _ rfl)).trans ((aN (a _ rfl)).trans (eK id (a _ rfl) (a _ rfl) (a _ rfl) (a _ rfl)))))
    |false=>
     rw[ho] at BH;simp only[go_sem,BH,h0,dm,eF,iH,kF,w2,OP,s101,FV pt];refine⟨?_,?_⟩
     .rcases Gk with rfl|rfl<;>rcases Gj with rfl|rfl<;>rcases dI with ⟨rfl,rfl⟩|⟨rfl,rfl⟩|⟨rfl,rfl⟩<;>rcases nH with ⟨rfl,rfl⟩|⟨rfl,rfl⟩|⟨rfl,rfl⟩<;>kernel_rfl
     refine ih (k+1) (aO ls x) (gO.set x true) f' _ _ cd c2 c3 ?_ ?_ ?_ ?_ ?_ ?_ ?_ ?_ (by rw[nX];exact DS) (Nt ok vr) cA aa aa Eh ?_
     .simp only[go_sem,h0]
     .simp only[go_sem,h2]
     .simp only[go_sem,h8]
     .simp only[go_sem,h9]
     .simp only[go_sem,dm]
     .simp only[go_sem,eF]
     .simp only[go_sem]
     .rw[oi];refine⟨?_,?_,?_,?_,?_,?_,?_⟩
      .exact(aN (nSi rfl).symm).trans ((aN (nSi rfl).symm).trans ((aN (nSi rfl).symm).trans ((eK _ (nSi rfl).symm (nSi rfl).symm (nSi rfl).symm (nSi rfl).symm).trans hB.bS)))
      .exact(aN (nBi rfl).symm).trans ((aN (nBi rfl).symm).trans ((aN (nBi rfl).symm).trans ((eK _ (nBi rfl).symm (nBi rfl).symm (nBi rfl).symm (nBi rfl).symm).trans hB.bB)))
      .exact(aN ae).trans ((aN ae).trans ((aN ae).trans ((eK _ ae ae ae ae).trans hB.b8)))
      .rw[rz,Lt,l9,ho];rfl
      .rw[LP];exact hB.gd.of_eq ((aN ae).trans ((aN ae).trans ((aN ae).trans (eK _ ae ae ae ae))))
      .exact LF.of_eq ((aN ae).trans ((aN ae).trans (aN ae)))
      exact LH.of_eq ((aN ae).trans ((aN ae).trans (aN ae)))
     intro aE ak vW mY vX q8 yA tO cU;refine hq aE ak vW mY vX (by rw[q8];simp only[go_sem]) (by rw[yA];simp only[go_sem]) tO fun id hn=>?_;have a:∀y,sA y->id≠y:=fun y hy e=>hn (.inl (e▸hy));exact(cU id hn).trans ((aN (a _ rfl)).trans ((aN (a _ rfl)).trans ((aN (a _ rfl)).trans (eK id (a _ rfl) (a _ rfl) (a _ rfl) (a _ rfl)))))
   have Ux:((x:Int).tmod 2==1)=true:=by rw[jG,show x%2=1 by omega];rfl
   rw[if_neg dD] at Gf D0;simp only[go_sem,eD,Ux,iH,jw];refine aaz (f:=103) (fun o h=>aoG o (by simp only[cF];omega) (hnP _) h) apO hc kr1 f1 fun aT fG aU=>?_;simp only[go_sem,shI];refine aaz (f:=89) (fun o h=>adK o (by simp only[cF];omega) (hnF _) h) apN (he.of_eq (aU _ ae)) kr2 f2 fun jz LS kG=>?_;have hP:grown 4224640128 CP 2 (jF PP.reverse) (.one c) jz:=by rw[jF,List.map_reverse];exact fG.of_eq (kG _ ae)
   have hE:grown 4224640129 3 1 (nP FF.reverse) (.one e) jz:=by rw[nP,List.map_reverse];exact LS
   have B9:∀i,i≠4224640128->i≠4224640129->jz i=blk i:=fun i a b=>(kG i b).trans ((aU i a).trans (hb i a b));have bFN:=(B9 4224128448 ae ae).trans hB.bF;simp only[go_sem,bFN,eF,kF];obtain⟨rP,hxP,Gk⟩:=hP.elems;refine N5 (site:=4224896192) (id:=4224896192) (bytes:=16) (by rcases Gk with rfl|rfl<;>simp[kp,kr1]) (hB.gp.of_eq (B9 _ ae ae)) hxP hP.fM (by simp only[cF,xy];omega) fun c2 qf r1 u1 qP kh dI=>?_
   have FB:=(kh 4224128448 ae ae).trans bFN;simp only[go_sem,FB,eF,kF];obtain⟨rE,hxE,Gj⟩:=(hE.of_eq (kh _ ae ae)).elems;refine N5 (site:=4224896448) (id:=4224896448) (bytes:=8) (by rcases Gj with rfl|rfl<;>simp[kf,kr2]) (hB.gf.of_eq ((kh _ ae ae).trans (B9 _ ae ae))) hxE hE.fM (by simp only[cF,xy];omega) fun c3 Ag r2 u2 LG xW nH=>?_
   have BH:=(xW 4224128448 ae ae).trans FB;have eK:∀i,i≠4224640128->i≠4224640129->i≠4224896192->i≠4224896448->Ag i=blk i:=fun i a b c d=>(xW i d d).trans ((kh i c c).trans (B9 i a b));have LF:grown 4224896192 CP 2 (jF f'.places) (.one c2) Ag:=by rw[Gf,JC];exact qP.of_eq (xW _ ae ae)
   have LH:grown 4224896448 3 1 (nP f'.wx) (.one c3) Ag:=by rw[D0,Jq];exact LG
   clear qP LG;cases ho:f.outer with
   |true=>
    rw[ho] at BH;simp only[go_sem,BH,h0,eF,iH,kF,s101,FV pt];refine⟨?_,?_⟩
    .rcases Gk with rfl|rfl<;>rcases Gj with rfl|rfl<;>rcases dI with ⟨rfl,rfl⟩|⟨rfl,rfl⟩|⟨rfl,rfl⟩<;>rcases nH with ⟨rfl,rfl⟩|⟨rfl,rfl⟩|⟨rfl,rfl⟩<;>kernel_rfl
    refine ih (k+1) (aO ls x) (gO.set x true) f' _ _ cd c2 c3 ?_ ?_ ?_ ?_ ?_ ?_ ?_ ?_ (by rw[nX];exact DS) (Nt ok vr) cA aa aa Eh ?_
    .simp only[go_sem,h0]
    .simp only[go_sem,h2]
    .simp only[go_sem,h8]
    .simp only[go_sem,h9]
    .simp only[go_sem,dm]
    .simp only[go_sem,eF]
    .simp only[go_sem]
    .rw[oi];refine⟨?_,?_,?_,?_,?_,?_,?_⟩
     .exact(aN (nSi rfl).symm).trans ((aN (nSi rfl).symm).trans ((aN (nSi rfl).symm).trans ((eK _ (nSi rfl).symm (nSi rfl).symm (nSi rfl).symm (nSi rfl).symm).trans hB.bS)))
     .exact(aN (nBi rfl).symm).trans ((aN (nBi rfl).symm).trans ((aN (nBi rfl).symm).trans ((eK _ (nBi rfl).symm (nBi rfl).symm (nBi rfl).symm (nBi rfl).symm).trans hB.bB)))
     .exact(aN ae).trans ((aN ae).trans ((aN ae).trans ((eK _ ae ae ae ae).trans hB.b8)))
     .rw[rz,Lt,l9,ho];rfl
     .rw[LP];exact hB.gd.of_eq ((aN ae).trans ((aN ae).trans ((aN ae).trans (eK _ ae ae ae ae))))
     .exact LF.of_eq ((aN ae).trans ((aN ae).trans (aN ae)))
     exact LH.of_eq ((aN ae).trans ((aN ae).trans (aN ae)))
    intro aE ak vW mY vX q8 yA tO cU;refine hq aE ak vW mY vX (by rw[q8];simp only[go_sem]) (by rw[yA];simp only[go_sem]) tO fun id hn=>?_;have a:∀y,sA y->id≠y:=fun y hy e=>hn (.inl (e▸hy));exact(cU id hn).trans ((aN (a _ rfl)).trans ((aN (a _ rfl)).trans ((aN (a _ rfl)).trans (eK id (a _ rfl) (a _ rfl) (a _ rfl) (a _ rfl)))))
   |false=>
    rw[ho] at BH;simp only[go_sem,BH,h0,dm,eF,iH,kF,w2,OP,s101,FV pt];refine⟨?_,?_⟩
    .rcases Gk with rfl|rfl<;>rcases Gj with rfl|rfl<;>rcases dI with ⟨rfl,rfl⟩|⟨rfl,rfl⟩|⟨rfl,rfl⟩<;>rcases nH with ⟨rfl,rfl⟩|⟨rfl,rfl⟩|⟨rfl,rfl⟩<;>kernel_rfl
    refine ih (k+1) (aO ls x) (gO.set x true) f' _ _ cd c2 c3 ?_ ?_ ?_ ?_ ?_ ?_ ?_ ?_ (by rw[nX];exact DS) (Nt ok vr) cA aa aa Eh ?_
    .simp only[go_sem,h0]
    .simp only[go_sem,h2]
    .simp only[go_sem,h8]
    .simp only[go_sem,h9]
    .simp only[go_sem,dm]
    .simp only[go_sem,eF]
    .simp only[go_sem]
    .rw[oi];refine⟨?_,?_,?_,?_,?_,?_,?_⟩
     .exact(aN (nSi rfl).symm).trans ((aN (nSi rfl).symm).trans ((aN (nSi rfl).symm).trans ((eK _ (nSi rfl).symm (nSi rfl).symm (nSi rfl).symm (nSi rfl).symm).trans hB.bS)))
     .exact(aN (nBi rfl).symm).trans ((aN (nBi rfl).symm).trans ((aN (nBi rfl).symm).trans ((eK _ (nBi rfl).symm (nBi rfl).symm (nBi rfl).symm (nBi rfl).symm).trans hB.bB)))
     .exact(aN ae).trans ((aN ae).trans ((aN ae).trans ((eK _ ae ae ae ae).trans hB.b8)))
     .rw[rz,Lt,l9,ho];rfl
     .rw[LP];exact hB.gd.of_eq ((aN ae).trans ((aN ae).trans ((aN ae).trans (eK _ ae ae ae ae))))
     .exact LF.of_eq ((aN ae).trans ((aN ae).trans (aN ae)))
     exact LH.of_eq ((aN ae).trans ((aN ae).trans (aN ae)))
    intro aE ak vW mY vX q8 yA tO cU;refine hq aE ak vW mY vX (by rw[q8];simp only[go_sem]) (by rw[yA];simp only[go_sem]) tO fun id hn=>?_;have a:∀y,sA y->id≠y:=fun y hy e=>hn (.inl (e▸hy));exact(cU id hn).trans ((aN (a _ rfl)).trans ((aN (a _ rfl)).trans ((aN (a _ rfl)).trans (eK id (a _ rfl) (a _ rfl) (a _ rfl) (a _ rfl)))))
structure ct (F:Nat) (ls:List Let):Prop where
 ok:eP F ls
 len:ls.length<=400
 cr:au Let.aw ls<=200
 fing:F<=40
 ne:ls≠[]
 first:∃l,ls[0]?=some l/\l.ay=true
 even:au Let.ay ls%2=0
 bad:∀l∈ls,de F l=false
 chk:iD F ls=0
 nw:eN ls=au Let.ay ls+au Let.aw ls/2+2
theorem Z5{f:Int}(h:iD f ls=0)(aK:ls≠[]):∃F:Nat,f=(F:Int)/\ct F ls:=by
 have h0:=h;unfold iD at h;by_cases h1:400<ls.length\/200<au Let.aw ls
 .rw[if_pos h1] at h;cases h
 rw[if_neg h1] at h;by_cases h2:f<0\/40<f
 .rw[if_pos h2] at h;cases h
 rw[if_neg h2,if_neg aK] at h;cases hv:lV f ls with
 |false=>rw[hv] at h;simp at h
 |true=>
  obtain⟨F,rfl⟩:=oL (show 0<=f by omega);refine⟨F,rfl,?_⟩;unfold lV at hv;simp only[bQ] at hv;obtain⟨⟨⟨v1,v2⟩,v3⟩,v4⟩:=hv;obtain⟨aR,kK,dX⟩:=MK.1 v3;have mH:∀l∈ls,de F l=false:=fun l hl=>by simpa using Dh.1 aR l hl
  have hg:ql F ls:=fun l hl hp=>((lU hp).1 (mH l hl)).1.1.1;obtain⟨g1,g2⟩:=(GL hg).1 kK;obtain⟨l0,pI⟩:=aI (iR.2 aK);rw[pI] at v1;exact⟨⟨aa,⟨g1,g2⟩,dX,fun l hl=>yW (mH l hl)⟩,aa,aa,aa,aK,⟨l0,pI,v1⟩,by simpa using v2,mH,h0,by simpa using v4⟩
def ZZ(F:Nat)(ls:List Let)(idS gS:Nat)(x:Nat)(gO:List Bool)(blk:aB)(v:V)(ak:aB):Prop:=
 ∃f cd cp cf,f=((eZ (aO ls) (nD ls+1) x gO).1).foldl (Fc.add F ls) (Fc.new ls x)/\v=.agg [.p (.bool f.ek),cd,cp,cf,.p (.bool f.outer)]/\ak idS=(gS,some (.arr 4 1 (bP ((eZ (aO ls) (nD ls+1) x gO).2.take (2*ls.length)))))/\
  grown 4224512256 3 1 (nP f.dd) (.one cd) ak/\grown 4224896192 CP 2 (jF f.places) (.one cp) ak/\grown 4224896448 3 1 (nP f.wx) (.one cf) ak/\Kept (fun id=>sA id\/id=idS) blk ak
theorem ai7{al:Al}{F:Nat}{ls:List Let}(ok:eP F ls)(hF:F<=1000)(okf:∀id,sA id->al.ok id=true){idS gS idB gB x:Nat}(oS:al.ok idS=true)(oB:al.ok idB=true)(nS:¬sA idS)(nB:¬sA idB)(nSB:idS≠idB)(f1:al.fs.contains 103=true)(f2:al.fs.contains 89=true){gO:List Bool}{blk:aB}
  (hx:x<2*ls.length) (DS:gO.length=nD ls) (eo:Kp (aO ls) (nD ls) gO) (hs:gO.getD x true=false) (bS:blk idS=(gS,some (.arr 4 1 (bP (gO.take (2*ls.length)))))) (bB:blk idB=(gB,some (.arr 4 1 (bP (BJ ls))))):
  ∃v ak,jd S 66 [.one (.p (tH F ls)),vi x,.one (.hsl idS gS 1 0 (2*ls.length)),.one (.hsl idB gB 1 0 ls.length)] al blk v ak/\ZZ F ls idS gS x gO blk v ak:=by
 have hl:=ok.hl;have iK:(aC ls).length<=ls.length:=uy ls ls.length;have im:nD ls<=4000000:=by unfold nD;omega
 have k0:al.ok 4224000000=true:=okf _ rfl;have kF:al.ok 4224128448=true:=okf _ rfl;have wq:=wrap_small (n:=x/2) aa;have wX:x/2<ls.length:=aa;have aj4:=tD (ag2 wX);have nSi:∀ {a:Nat},sA a->a≠idS:=fun h e=>nS (e▸h);have nBi:∀ {a:Nat},sA a->a≠idB:=fun h e=>nB (e▸h);have nB0:¬(idB=4224000000):=fun e=>nBi rfl e.symm
 have Ey:=Kc gO;refine oY c66 (hU rfl) ?_;simp only[go_sem,i66,bB,nB0,k0,kF,oB,eD,fy,wq,wX,aj4];refine⟨aD,?_⟩;refine ai3 ok hF okf (idS:=idS) (gS:=gS) (idB:=idB) (gB:=gB) (g8:=(blk 4224000000).1+1) (gF:=(blk 4224128448).1+1) (d:=x) oS nS nB nSB f1 f2 hx (nD ls+1) 0 x gO (Fc.new ls x) _ _ (.p .nils) (.p .nils) (.p .nils) ?_ ?_ ?_ ?_ ?_ ?_ ?_ ?_ DS (by unfold nD;omega) (Inv.start eo hs) aa aa ⟨aZ _,aY _,aY _⟩ ?_
 .simp only[go_sem]
 .simp only[go_sem]
 .simp only[go_sem]
 .simp only[go_sem]
 .simp only[go_sem]
 .simp only[go_sem]
 .simp only[go_sem]
 .refine⟨?_,?_,?_,?_,grown.nil,grown.nil,grown.nil⟩
  .simp only[aN (nSi (a:=4224000000) rfl).symm,aN (nSi (a:=4224128448) rfl).symm,bS]
  .simp only[aN (nBi (a:=4224000000) rfl).symm,aN (nBi (a:=4224128448) rfl).symm,bB]
  .simp only[go_sem]
  simp only[go_sem,Fc.new]
 intro aE ak vW mY vX q8 yA tO cU;simp only[go_sem] at q8 yA;have h8:=tO.b8;have hf:=tO.bF;simp only[go_sem,i66_r2,q8,yA,h8,hf,k0,kF];refine⟨_,vW,mY,vX,rfl,rfl,?_,?_,?_,?_,fun id hn=>?_⟩
 .exact(aN (nSi rfl).symm).trans tO.bS
 .exact tO.gd.of_eq (aN ae)
 .exact tO.gp.of_eq (aN ae)
 .exact tO.gf.of_eq (aN ae)
 have a:∀y,sA y->id≠y:=fun y hy e=>hn (.inl (e▸hy));refine(aN (a _ rfl)).trans ((cU id hn).trans ?_);simp only[aN (a 4224000000 rfl),aN (a 4224128448 rfl)]
theorem jB{s1 t1 z1:Nat}{es:List (List PV)}{c:C}{x:PV}{blk:aB}(h:grown s1 t1 z1 es (.one c) blk):kx blk (.tup [.one c,.one (.p x)])=some (.tup [.one (bK t1 z1 es),.one (.p x)]):=by obtain⟨c',o,hc,h2,h3⟩:=h.lG;cases hc;rcases h3 with rfl|rfl<;>simp[kx,tL,wA,oa,mN,h2,(show Go.Abs.lG blk (.p x)=some (.p x,[],[]) from rfl),apart,vE,ti,CU]
theorem VF{blk:aB}{id g g0 z o l ty sz:Nat}{es:List (List PV)}(h:blk id=(g0,some (.arr ty sz es))):mh blk (.one (.hsl id g z o l))=[id]:=(JM h:mB blk 6 (.hsl id g z o l)=[id])
theorem apK:(S.sites 66).contains 66=true:=ah
theorem apL:(S.sites 66).contains 103=true:=ah
theorem apM:(S.sites 66).contains 89=true:=ah
theorem aeS{S:List Bool}{n k:Nat}{b:Bool}(hk:k<n)(hn:n<=S.length)(h:S.getD k true=b):(S.take n)[k]?=some b:=by rw[jm,if_pos hk];rw[cJ] at h;obtain⟨c,hc⟩:=aI (show k<S.length by omega);rw[hc] at h ⊢;exact congrArg some h
theorem aja(g:ct F ls):aH S 40 [fP F ls] (.tup [.one (bK An 5 (ni (dS F ls))),.one (.p (.int .i64 0))]):=by
 have ok:=g.ok;have hl:=ok.hl;have hF:F<=1000:=by have:=g.fing;omega
 have iK:(aC ls).length<=ls.length:=uy ls ls.length;have hlen:=g.len;have im:nD ls<=4000000:=by unfold nD;omega
 have h2n:2*ls.length<=nD ls:=by unfold nD;omega
 have pr:=VI F ls hl;rw[Nc g.chk,if_neg g.ne,lJ] at pr;have pb:=ag4 ok;have hm:=maps ok;have m2:=qF (a:=ls.length) aa;have kL:2*ls.length<=140737488355328:=aa;have Cx:List.replicate (2*ls.length) [PV.bool false]=bP ((dC (aO ls) (nD ls) 0).2.take (2*ls.length)):=by show _=bP ((List.replicate (nD ls) false).take (2*ls.length));rw[List.take_replicate,yK h2n];simp
 have hLB:∀blk:aB,land blk [] 2560384064 ((RV.one (.own 4 1 (bP (BJ ls)))).gV (S.lone 2560384064))=some (.one (.hsl 2560384064 ((blk 2560384064).1+1) 1 0 ls.length),[(2560384064,((blk 2560384064).1+1,some (.arr 4 1 (bP (BJ ls)))))]):=by intro blk;rw[show S.lone 2560384064=false by kernel_rfl];show some (V.one (.hsl 2560384064 ((blk 2560384064).1+1) 1 0 (bP (BJ ls)).length),_)=_;rw[show(bP (BJ ls)).length=ls.length by simp[uz]];rfl
 have eC:S.shared 66=true:=ah;refine ba c40 ?_;simp only[go_sem,i40,s22,dB pr iz,s65,dB pb (hLB _),m2,kL,Cx];refine cQ (fun k aj blk=>aj 4=.one (.p (tH F ls))/\aj 7=.one (.hsl 2560320448 1 1 0 (2*ls.length))/\aj 8=.one (.hsl 2560384064 1 1 0 ls.length)/\aj 29=vi ((2*ls.length:Nat):Int)/\aj 30=vi k/\
   blk 2560320448=(1,some (.arr 4 1 (bP ((dC (aO ls) (nD ls) k).2.take (2*ls.length)))))/\blk 2560384064=(1,some (.arr 4 1 (bP (BJ ls))))/\
   ∃vo,aj 6=.one vo/\grown 2560704448 An 5 (ni ((dC (aO ls) (nD ls) k).1.map (lA F ls))) (.one vo) blk) 0 (2*ls.length) (aY _) ?_ ?_
 .simp only[go_sem];first|exact⟨rfl,rfl,rfl,_,rfl,.inl ⟨rfl,rfl⟩⟩|exact⟨rfl,rfl,_,rfl,.inl ⟨rfl,rfl⟩⟩|exact⟨rfl,_,rfl,.inl ⟨rfl,rfl⟩⟩|exact⟨rfl,rfl,rfl,rfl,_,rfl,.inl ⟨rfl,rfl⟩⟩
 rintro k aj blk hk ⟨h4,h7,h8,h29,Iz,bS,bB,vo,h6,go⟩
 by_cases aq:k<2*ls.length
 .have aJ:((k:Int)<((2*ls.length:Nat):Int)):=aa;have w1:=bG (n:=k) aa;obtain⟨eo,_⟩:=Qx hm k aa;have Uj:=GW (aO ls) (nD ls) k;have Ep:=Nx (aO ls) (nD ls) k;have cA:=yG (aO ls) (nD ls) k;generalize hw:dC (aO ls) (nD ls) k=st at*;obtain⟨o,gO⟩:=st;simp only at eo Uj Ep bS go;unfold uS at cA;cases hs:gO.getD k true with
  |true=>simp only[hs,if_true] at cA;have hb:=tD (aeS aq aa hs);simp only[go_sem,i40_l1,h4,h6,h7,h8,h29,Iz,bS,bB,aq,aJ,hb,w1,cA];exact⟨vo,rfl,go⟩
  |false=>
   simp only[hs,eY,if_false,Uj] at cA;have hb:=tD (aeS aq aa hs);obtain⟨t,ht⟩:=afe (aO ls) (k:=nD ls) hs;have yf:((eZ (aO ls) (nD ls+1) k gO).1).foldl (Fc.add F ls) (Fc.new ls k)=lA F ls (eZ (aO ls) (nD ls+1) k gO).1:=by unfold lA;rw[ht];rfl
   have fp:=ai5 (F:=F) (t:=t) aq;rw[<- ht] at fp;simp only[go_sem,i40_l1,h4,h6,h7,h8,h29,Iz,bS,bB,aq,aJ,hb,eC];have abj:mh blk (.one (.hsl 2560320448 1 1 0 (2*ls.length)))=[2560320448]:=VF bS;have Mv:mh blk (.one (.hsl 2560384064 1 1 0 ls.length))=[2560384064]:=VF bB;refine wD (P:=ZZ F ls 2560320448 1 k gO blk) Cv (ai7 ok hF (fun id h=>Kw (by rw[h];exact apK)) (BA ?_) (BA ?_) ae ae ae ?_ ?_ aq Uj eo hs bS bB) ?_
   .simp only[dG,mR,abj,Mv];simp
   .simp only[dG,mR,abj,Mv];simp
   .exact apL
   .exact apM
   rintro v bc ⟨f,cd,cp,cf,hf,rfl,bS1,gd,gp,gf,cU⟩
   rw[yf] at hf;rw[<- hf] at fp;have KC:=(cU 2560384064 ae).trans bB;have go1:=go.of_eq (cU 2560704448 ae);have l9:ni (o.map (lA F ls))++[f.ps]=ni ((dC (aO ls) (nD ls) (k+1)).1.map (lA F ls)):=by rw[cA,hf];simp
   have hS2:(dC (aO ls) (nD ls) (k+1)).2=(eZ (aO ls) (nD ls+1) k gO).2:=by rw[cA]
   have akR:(ni (o.map (lA F ls))).length<=k:=by simpa using Ep
   generalize ni (o.map (lA F ls))=outs at go1 l9 akR;have gd0:=gd;rcases gd with ⟨e,_⟩|⟨_,gg,e,ik⟩
   .simp at e;exact absurd e fp
   cases e;simp only[go_sem];rw[cF] at gd0;obtain⟨fr,hx,ye,Aq⟩:=aiC (blk:=cZ bc 2560704384 ((bc 2560704384).1+1,some (.iT An 5 [[.p (.bool f.ek),.hsl 4224512256 gg 1 0 f.dd.length,cp,cf,.p (.bool f.outer)]]))) (s:=2560704384) rz (gd0.of_eq (aN ae)) (gp.of_eq (aN ae)) (gf.of_eq (aN ae));have nf:∀i,i≠4224512256->i≠4224896192->i≠4224896448->i∉fr:=fun i a b c h=>by
    rcases Aq i h with h|h|h
    .exact a h
    .exact b h
    exact c h
   refine ajD (site:=2560704448) (id:=2560704448) (bytes:=88) (go1.of_eq (aN ae)) hx ye (nf _ ae ae ae) (nf _ ae ae ae) (.inl rfl) (by simp only[cE,dQ];omega) fun c aT hc aU=>?_;have BS':=(aU 2560320448 ae ae (nf _ ae ae ae)).trans ((aN ae).trans bS1);have BB':=(aU 2560384064 ae ae (nf _ ae ae ae)).trans ((aN ae).trans KC);simp only[go_sem,h4,h6,h7,h8,h29,Iz,BS',BB',w1,aq,hS2];refine⟨c,rfl,?_⟩;rw[<- l9];exact hc
 have:k=2*ls.length:=aa;subst this;simp only[go_sem,i40_l1,i40_r2,h6,h29,Iz,dZ];have:=Wo hm (nD ls) h2n (aZ _);unfold dS fV;rw[this];exact jB go
structure Pc where
 l:Let
 d:Bool
def Pc.ps(p:Pc):List PV:=[.int .i64 p.l.kind,.int .i64 p.l.gate,.int .i64 p.l.aA,.int .i64 p.l.id,.int .i64 p.l.sign,.bool p.l.over,.bool p.d]
abbrev bJ(o:List Pc):List (List PV):=o.map Pc.ps
abbrev jj:Nat:=90
def kP:Let:=⟨0,0,0,0,0,false⟩
def pieces(ls:List Let):List Pc:=(List.range ls.length).map fun i=>⟨ls.getD i kP,iE ls i⟩
theorem eW(ls:List Let):(pieces ls).length=ls.length:=by simp[pieces]
theorem nL{i:Nat}{l:Let}(h:ls[i]?=some l):(pieces ls)[i]?=some ⟨l,iE ls i⟩:=by have:=(aV.1 h).1;simp only[pieces,fX,tu this,kX,cJ,h,kA]
theorem iO{o:List Pc}{k:Nat}{p:Pc}(h:o[k]?=some p):(bJ o)[k]?=some p.ps:=by simp[h]
def oI(L:List Nat)(ds:List Nat)(v:Nat):List Nat:=ds.foldl (fun L d=>L.set d v) L
def qE:List Fc->Nat->List Nat->List Nat
 |[],_,L=>L
 |f::r,j,L=>qE r (j+1) (oI L f.dd j)
def iN(F:Nat)(ls:List Let):List Nat:=qE (dS F ls) 0 (List.replicate (2*ls.length) 0)
theorem Nf(L ds:List Nat)(v:Nat):(oI L ds v).length=L.length:=by
 induction ds generalizing L with
 |nil=>rfl
 |cons d ds ih=>show(oI (L.set d v) ds v).length=_;rw[ih];simp
theorem ao3(L a b:List Nat)(v:Nat):oI L (a++b) v=oI (oI L a v) b v:=by simp[oI]
theorem Pl(fs:List Fc):∀(j:Nat) (L:List Nat),(qE fs j L).length=L.length:=by
 induction fs with
 |nil=>intro j L;rfl
 |cons f r ih=>intro j L;show(qE r (j+1) _).length=_;rw[ih,Nf]
theorem ama(a:List Fc)(f:Fc):∀(j:Nat) (L:List Nat),qE (a++[f]) j L=oI (qE a j L) f.dd (j+a.length):=by
 induction a with
 |nil=>intro j L;rfl
 |cons g r ih=>intro j L;show qE (r++[f]) (j+1) _=_;rw[ih];simp[qE];congr 1;omega
theorem af1(F:Nat)(ls:List Let):∀(w:List Nat) (f:Fc),(w.foldl (Fc.add F ls) f).dd=f.dd++w.filter (fun x=>decide (x<2*ls.length)):=by
 intro w
 induction w with
 |nil=>intro f;simp
 |cons x w ih=>
  intro f;rw[uW,ih];unfold Fc.add;by_cases h:x<2*ls.length
  .rw[if_pos h,List.filter_cons_of_pos (by simpa using h)];simp
  rw[if_neg h,List.filter_cons_of_neg (by simpa using h)]
theorem DH(F:Nat)(ls:List Let)(w:List Nat):(lA F ls w).dd=w.filter (fun x=>decide (x<2*ls.length)):=by unfold lA;rw[af1];rfl
theorem TP{f:Fc}(h:f∈dS F ls):∀d∈f.dd,d<2*ls.length:=by
 obtain⟨w,_,rfl⟩:=dr.1 h;intro d hd;rw[DH] at hd
 simpa using (tv.1 hd).2
theorem TQ(ok:eP F ls){f:Fc}(h:f∈dS F ls):f.dd.length<=nD ls:=by obtain⟨w,hw,rfl⟩:=dr.1 h;rw[DH];exact mU (List.length_filter_le _ _) (zZ ok w hw).2.1
theorem ZY(F:Nat)(ls:List Let):(dS F ls).length=eN ls:=by simp[dS,eN]
theorem K8{o:List Fc}{k:Nat}{p:Fc}(h:o[k]?=some p):(ni o)[k]?=some p.ps:=by simp[h]
abbrev dj(F:Nat)(ls:List Let):PV:=.box [.int .i64 F,.sl (bJ (pieces ls)),.sl (ni (dS F ls)),.sl (nP (iN F ls)),.int .i64 (au Let.ay ls:Nat),.int .i64 ((au Let.aw ls/2:Nat):Int),.sl (nP (counts ls F))]
abbrev KF(F:Nat)(ls:List Let)(pc cf:C):List C:=[.p (.int .i64 F),pc,cf,.hsl 1152256448 1 1 0 (2*ls.length),.p (.int .i64 (au Let.ay ls:Nat)),.p (.int .i64 ((au Let.aw ls/2:Nat):Int)),.hsl 1152256960 1 1 0 (F+1)]
theorem am4{F:Nat}{ls:List Let}(g:ct F ls){pc cf:C}{aj:Env}{blk:aB}{Q:ef}(h4:aj 4=.one cf)(h6:aj 6=.one (.bt 1152257088 1 0))
  (bB:blk 1152257088=(1,some (.var (KF F ls pc cf)))) (bL:blk 1152256448=(1,some (.arr 3 1 (nP (List.replicate (2*ls.length) 0))))) (bC:blk 1152256960=(1,some (.arr 3 1 (nP (counts ls F))))) (gp:grown 1152896448 jj 7 (bJ (pieces ls)) (.one pc) blk) (gf:grown 1152064064 An 5 (ni (dS F ls)) (.one cf) blk)
  (hq:∀aE ak,aE 6=aj 6->ak 1152257088=(1,some (.var (KF F ls pc cf)))->ak 1152256448=(1,some (.arr 3 1 (nP (iN F ls))))->ak 1152256960=(1,some (.arr 3 1 (nP (counts ls F))))->grown 1152896448 jj 7 (bJ (pieces ls)) (.one pc) ak->grown 1152064064 An 5 (ni (dS F ls)) (.one cf) ak->W S .all i18_r5 Q aE ak):
  W S .all i18_r6 Q aj blk:=by
 have ok:=g.ok;have hl:=ok.hl;have hlen:=g.len;have iK:(aC ls).length<=ls.length:=uy ls ls.length;have im:nD ls<=4000000:=by unfold nD;omega
 have qu:(dS F ls).length<=nD ls:=by rw[dS,cF];exact Nx (aO ls) (nD ls) _
 obtain⟨g0,T9⟩:∃gg,cf=.hsl 1152064064 gg 5 0 (dS F ls).length:=by
  rcases gf with ⟨e,_⟩|⟨_,gg,e,hb⟩
  .have h1:(dS F ls).length=0:=by simpa using congrArg List.length e
   rw[ZY,g.nw] at h1;omega
  cases e;exact⟨gg,by rw[cF]⟩
 have xQ:=h4;rw[T9] at xQ;simp only[go_sem,i18_r6,xQ];refine cQ (fun k aE ak=>aE 6=aj 6/\aE 78=.one cf/\aE 79=vi (dS F ls).length/\aE 80=vi k/\ak 1152257088=(1,some (.var (KF F ls pc cf)))/\ak 1152256448=(1,some (.arr 3 1 (nP (qE ((dS F ls).take k) 0 (List.replicate (2*ls.length) 0)))))/\ak 1152256960=(1,some (.arr 3 1 (nP (counts ls F))))/\
   grown 1152896448 jj 7 (bJ (pieces ls)) (.one pc) ak/\grown 1152064064 An 5 (ni (dS F ls)) (.one cf) ak) 0 (dS F ls).length (aY _) ?_ ?_
 .simp only[go_sem,bB,bL,bC,qE,T9];exact⟨rfl,gp,by first|exact gf|(rw[<- T9];exact gf)⟩
 rintro k aE ak hk ⟨q6,h78,h79,h80,bB,bL,bC,gp,gf⟩
 rw[h6] at q6;by_cases aq:k<(dS F ls).length
 .have aJ:((k:Int)<((dS F ls).length:Int)):=aa;obtain⟨f,hf⟩:=aI aq;have wM:=K8 hf;have wS:=aQ hf;have IE:=TQ ok wS;have hdd:=TP wS;have w1:=bG (n:=k) aa;have oi:qE ((dS F ls).take (k+1)) 0 (List.replicate (2*ls.length) 0)=oI (qE ((dS F ls).take k) 0 (List.replicate (2*ls.length) 0)) f.dd k:=by
   rw[kW,hf];show qE (_++[f]) 0 _=_;rw[ama,fJ,yK aa,jc]
  have hLl:(qE ((dS F ls).take k) 0 (List.replicate (2*ls.length) 0)).length=2*ls.length:=by rw[Pl,List.length_replicate]
  generalize qE ((dS F ls).take k) 0 (List.replicate (2*ls.length) 0)=L at bL oi hLl;obtain⟨gg,vc,bf⟩:∃gg,cf=.hsl 1152064064 gg 5 0 (ni (dS F ls)).length/\ak 1152064064=(gg,some (.arr An 5 (ni (dS F ls)))):=by
   rcases gf with ⟨e,_⟩|⟨_,gg,e,hb⟩
   .have:(dS F ls).length=0:=by simpa using congrArg List.length e
    omega
   cases e;exact⟨gg,rfl,hb⟩
  rw[cF] at vc;have T4:=h78;rw[vc] at T4;simp only[go_sem,i18_l4,T4,h79,h80,bf,wM,Fc.ps,aq,aJ];refine cQ (fun j cS aT=>cS 6=.one (.bt 1152257088 1 0)/\cS 11=vi k/\cS 78=.one cf/\cS 79=vi (dS F ls).length/\cS 80=vi k/\cS 86=.one (.p (.sl (nP f.dd)))/\cS 87=vi f.dd.length/\cS 88=vi j/\
   aT 1152257088=(1,some (.var (KF F ls pc cf)))/\aT 1152256448=(1,some (.arr 3 1 (nP (oI L (f.dd.take j) k))))/\aT 1152256960=(1,some (.arr 3 1 (nP (counts ls F))))/\grown 1152896448 jj 7 (bJ (pieces ls)) (.one pc) aT/\grown 1152064064 An 5 (ni (dS F ls)) (.one cf) aT) 0 f.dd.length (aY _) ?_ ?_
  .simp only[go_sem,q6,vc,T4,h79,h80,bB,bL,bC,oI,List.foldl_nil];refine⟨rfl,gp.of_eq (aN ae),?_⟩;first|exact gf.of_eq (aN ae)|(rw[<- vc];exact gf.of_eq (aN ae))
  rintro j cS aT hj ⟨p6,p11,p78,p79,p80,p86,p87,p88,cB,cL,cC,cp,cg⟩
  by_cases pJ:j<f.dd.length
  .have Cn:((j:Int)<(f.dd.length:Int)):=aa;obtain⟨d,hd⟩:=aI pJ;have mv:=iA hd;have hdb:=hdd d (aQ hd);have w2:=bG (n:=j) aa;have km:(oI L (f.dd.take j) k).set d k=oI L (f.dd.take (j+1)) k:=by rw[kW,hd,ao3];rfl
   have eH:=Jr (oI L (f.dd.take j) k) d k;rw[km] at eH;obtain⟨v0,hv0⟩:=aI (ls:=oI L (f.dd.take j) k) (k:=d) (by rw[Nf,hLl];exact hdb);have hv:=iA hv0;simp only[go_sem,i18_l2,p6,p11,p78,p79,p80,p86,p87,p88,cB,cL,cC,pJ,Cn,mv,hdb,hv,eH,w2];exact⟨cp.of_eq (aN ae),cg.of_eq (aN ae)⟩
  have:j=f.dd.length:=aa;subst this;rw[jo,<- oi] at cL;simp only[go_sem,i18_l2,i18_r3,p6,p78,p79,p80,p87,p88,cB,cL,cC,dZ,w1,aq,h6];exact⟨cp,cg⟩
 have:k=(dS F ls).length:=aa;subst this;rw[jo] at bL;simp only[go_sem,i18_l4,h79,h80,dZ];exact hq _ _ (by simp only[go_sem,q6,h6]) bB bL bC gp gf
theorem ac3(g:ct F ls):aH S 18 [fP F ls] (uQ (dj F ls) (.int .i64 0)):=by
 have ok:=g.ok;have hl:=ok.hl;have hlen:=g.len;have tQ:=g.fing;have pf:=aja g;have pps:=Vh F ls hl;have pcs:=Yl F ls hl;have lo:S.lone 1152064064=false:=ah;have m2:=qF (a:=ls.length) aa;have wF:=bG (n:=F) aa;have r1:2*ls.length*8<=140737488355328:=aa;have r2:(F+1)*8<=140737488355328:=aa;have e1:List.replicate (2*ls.length) [PV.int .i64 0]=nP (List.replicate (2*ls.length) 0):=af;have e2:List.replicate (F+1) [PV.int .i64 0]=nP (rM ls F 0):=by rw[Rq];simp
 refine ba c18 ?_;simp only[go_sem,i18,s40];refine aaw pf lo fun cf jQ vc iL=>?_;have KA:=iL 1152000000 ae;simp only[go_sem] at KA;simp only[go_sem,KA,m2,wF,r1,r2,s41,s42,lO pps,lO pcs,e1,e2];refine⟨aD,?_⟩;have hz:∀j,j≠1152064064->j≠1152000000->jQ j=(0,none):=fun j a b=>(iL j a).trans (aN b);have z1:=hz 1152256448 ae ae;have z2:=hz 1152256960 ae ae;have z3:=hz 1152257088 ae ae;refine cQ (fun k aj blk=>aj 4=.one cf/\aj 6=.one (.bt 1152257088 1 0)/\aj 7=vb (dn ls k)/\aj 42=.one (.p (pR ls))/\aj 43=vi ls.length/\aj 44=vi k/\
   blk 1152256448=(1,some (.arr 3 1 (nP (List.replicate (2*ls.length) 0))))/\blk 1152256960=(1,some (.arr 3 1 (nP (rM ls F k))))/\
   ∃pc,blk 1152257088=(1,some (.var (KF F ls pc cf)))/\grown 1152896448 jj 7 (bJ ((pieces ls).take k)) (.one pc) blk/\grown 1152064064 An 5 (ni (dS F ls)) (.one cf) blk) 0 ls.length (aY _) ?_ ?_
 .simp only[go_sem,z1,z2,z3];refine⟨rfl,rfl,.p .nils,rfl,.inl ⟨rfl,rfl⟩,vc.of_eq ?_⟩;simp only[go_sem]
 rintro k aj blk hk ⟨h4,h6,h7,lB,Lo,Lp,bL,bC,pc,bB,gp,gf⟩
 by_cases aq:k<ls.length
 .obtain⟨l,cM⟩:=aI aq;have hi:=lf cM;have aJ:((k:Int)<(ls.length:Int)):=aa;have w1:=bG (n:=k) aa;have wT:=nL cM;cases hp:(l.kind==1) with
  |false=>
   have gE:l.ay=false:=hp;have mv:iE ls k=false:=by simp[iE,cM,gE]
   rw[mv] at wT;have hd:=Ig cM gE;have qQ:=Yh (F:=F) cM gE;have oi:bJ ((pieces ls).take (k+1))=bJ ((pieces ls).take k)++[(Pc.mk l false).ps]:=by rw[kW,wT];simp
   simp only[go_sem,i18_l1,h6,lB,Lo,Lp,hi,Let.ps,aJ,hp,bB];refine y9 (site:=1152896448) (id:=1152896448) (bytes:=56) (xs:=[(Pc.mk l false).ps]) (rd:=[1152896384]) (gp.of_eq (by simp only[aS,Nat.reduceEqDiff,if_false])) (by simp[eT,aS,Pc.ps]) (.inl rfl) (by simp only[cF,cE,dQ,fJ,eW];omega) fun c bc r u hc hb hr=>?_;have tR:∀i,i≠1152896448->i≠1152896384->i≠1152576128->i≠1152512128->i≠1152256960->bc i=blk i:=fun i a b c d e=>(hb i a a).trans (by simp only[aS,if_neg b,if_neg c,if_neg d])
   have LJ:=(hb 1152256960 ae ae);simp only[aS,Nat.reduceEqDiff,if_false,bC] at LJ;have KC:=(tR 1152257088 ae ae ae ae ae).trans bB;have bL1:=(tR 1152256448 ae ae ae ae ae).trans bL;simp only[go_sem,h4,h6,h7,lB,Lo,Lp,KC,bL1,LJ,w1,hd,qQ,aq];refine⟨?_,?_⟩
   .rcases hr with ⟨rfl,rfl⟩|⟨rfl,rfl⟩|⟨rfl,rfl⟩<;>kernel_rfl
   refine⟨c,rfl,?_,?_⟩
   .rw[oi];exact hc.of_eq (aN ae)
   exact gf.of_eq ((aN ae).trans (tR _ ae ae ae ae ae))
  |true=>
   have gE:l.ay=true:=hp;have mv:iE ls k=dn ls k:=by simp[iE,cM,gE]
   rw[mv] at wT;have hd:=DE cM gE;have oi:bJ ((pieces ls).take (k+1))=bJ ((pieces ls).take k)++[(Pc.mk l (dn ls k)).ps]:=by rw[kW,wT];simp
   have rY:=ok.ax.eQ l (aQ cM) gE;obtain⟨G,hG⟩:=oL rY.g0;have zo:G<=F:=by have:=rY.g1;omega
   have B7:G<F+1:=aa;have qt:=iA (Yf (ls:=ls) (k:=k) zo);have eo:cg (ls.take k) G<=k:=yX _ _ _;have w2:=bG (n:=cg (ls.take k) G) aa;have s1:=Jr (rM ls F k) G (cg (ls.take k) G+1);rw[<- Yg cM gE hG] at s1;simp only[go_sem,i18_l1,h6,h7,lB,Lo,Lp,hi,Let.ps,aJ,hp,hG,bB,bC,qt,B7,w2,s1];refine⟨aD,?_⟩;refine y9 (site:=1152896448) (id:=1152896448) (bytes:=56) (xs:=[(Pc.mk l (dn ls k)).ps]) (rd:=[1152896384]) (gp.of_eq (by simp only[aS,Nat.reduceEqDiff,if_false])) (by simp[eT,aS,Pc.ps,hG]) (.inl rfl) (by simp only[cF,cE,dQ,fJ,eW];omega) fun c bc r u hc hb hr=>?_
   have tR:∀i,i≠1152896448->i≠1152896384->i≠1152576128->i≠1152512128->i≠1152256960->bc i=blk i:=fun i a b c d e=>(hb i a a).trans (by simp only[aS,if_neg b,if_neg c,if_neg d,if_neg e]);have LJ:=(hb 1152256960 ae ae);simp only[aS,Nat.reduceEqDiff,if_false,if_true,bC] at LJ;have KC:=(tR 1152257088 ae ae ae ae ae).trans bB;have bL1:=(tR 1152256448 ae ae ae ae ae).trans bL;simp only[go_sem,h4,h6,h7,lB,Lo,Lp,KC,bL1,LJ,w1,hd,aq];refine⟨?_,?_⟩
   .rcases hr with ⟨rfl,rfl⟩|⟨rfl,rfl⟩|⟨rfl,rfl⟩<;>kernel_rfl
   refine⟨c,rfl,?_,?_⟩
   .rw[oi];exact hc.of_eq (aN ae)
   exact gf.of_eq ((aN ae).trans (tR _ ae ae ae ae ae))
 have:k=ls.length:=aa;subst this;rw[fY (by rw[eW];exact aZ _)] at gp;rw[Rp] at bC;simp only[go_sem,i18_l1,Lo,Lp,dZ];refine am4 g (pc:=pc) (cf:=cf) ?_ ?_ bB bL bC gp gf ?_
 .simp only[go_sem,h4]
 .simp only[go_sem,h6]
 intro aE ak q6 cB cL cC gp' gf';simp only[go_sem,h6] at q6;obtain⟨rp,np,_⟩:=gp'.V0 (n:=4);obtain⟨rf,nf,_⟩:=gf'.V0 (n:=4);have t1:List.take (2*ls.length) (nP (iN F ls))=nP (iN F ls):=fY (by simp[iN,Pl]);have t2:List.take (F+1) (nP (counts ls F))=nP (counts ls F):=fY (by simp[counts]);have n1:2*ls.length<=(iN F ls).length:=by simp[iN,Pl]
 have n2:F+1<=(counts ls F).length:=by simp[counts]
 simp only[go_sem,i18_r5,q6];simp only[go_sem,kx,tL,wA,oa,mN,lG,cB,cL,cC,np,nf,t1,t2,n1,n2];rfl
theorem sF{x:Int}(h1: -9223372036854775808<=x)(h2:x<=9223372036854775807):IntKind.i64.wrap x=x:=by
 have e:(2 ^ IntKind.i64.bits:Int)=18446744073709551616:=ae;have e2:(2 ^ (IntKind.i64.bits-1):Int)=9223372036854775808:=ae;unfold IntKind.wrap;simp only[e,e2];by_cases h:0<=x
 .have h3:x%18446744073709551616=x:=aa;rw[h3];have h4:¬x≥9223372036854775808:=aa;simp[h4]
 have h3:x%18446744073709551616=x+18446744073709551616:=aa;rw[h3];have h4:x+18446744073709551616≥9223372036854775808:=aa;have h5:IntKind.i64.signed=true:=rfl;simp[h4,h5]
theorem Nq(l:List Pc):fM 7 (bJ l)=true:=by simp[fM,Pc.ps]
theorem gk(l:List Pc):((bJ l).all fun e=>e.all PV.scalar)=true:=by simp[Pc.ps,PV.scalar]
theorem EU(l:List Pc):∀e∈bJ l,e.length=7/\ ∀v∈e,v.norm=v:=fun e he=>by obtain⟨a,_,rfl⟩:=dr.1 he;exact⟨rfl,fun v hv=>by simp[Pc.ps] at hv;rcases hv with rfl|rfl|rfl|rfl|rfl|rfl|rfl<;>rfl⟩
abbrev dK(l x:List Pc)(k:Nat):List Pc:=l.take (k+1)++x++l.drop (k+1)
theorem PH(a b:List Pc):bJ (a++b)=bJ a++bJ b:=af
theorem jv(l x:List Pc)(k:Nat)(hk:k<l.length)(hl:l.length<=1000000)(hx:x.length<=1000000):
  aH S 110 [.one (.p (.sl (bJ l))),vi k,.one (.p (.sl (bJ x)))] (.one (bK jj 7 (bJ (dK l x k)))):=by
 have w1:=bG (n:=k) aa;have cM:k+1<=l.length:=aa;have hs:=Nq l;have ht:List.take (k+1) (bJ l)=bJ (l.take (k+1)):=by simp[Ad]
 have hd:List.take (l.length-(k+1)) (List.drop (k+1) (bJ l))=bJ (l.drop (k+1)):=by rw[fY af];simp[Dk]
 refine ba c110 ?_;simp only[go_sem,i110,w1,cM,hs,ht];refine qk (id:=7040064256) (site:=7040064256) (bytes:=56) grown.nil (xs:=bJ (l.take (k+1))) (rd:=[]) rfl (.inr (Nq _)) (by simp;omega) fun c1 bc g1 aR=>?_;simp only[go_sem];refine qk (id:=7040064256) (site:=7040128128) (bytes:=56) g1 (xs:=bJ x) (rd:=[]) rfl (.inr (Nq _)) (by simp;omega) fun c2 aT g2 aU=>?_;simp only[go_sem,w1,cM,hs,hd];refine qk (id:=7040128128) (site:=7040192320) (bytes:=56) g2 (xs:=bJ (l.drop (k+1))) (rd:=[]) rfl (.inr (Nq _)) (by simp;omega) fun c3 jz g3 kG=>?_;simp only[go_sem];rw[gZ,<- PH,<- PH] at g3;exact sQ g3
theorem ahF(p:Pc)(t:List Pc)(hl:(p::t).length<=1000000):aH S 109 [.one (.p (.sl (bJ (p::t))))] (.one (bK jj 7 (bJ (p::t)))):=by
 have hs:=Nq (p::t);have hr:(0+(bJ (p::t)).length)*56<=room:=by unfold room;rw[cF];omega
 refine ba c109 ?_;obtain⟨e0,es,hq⟩:∃e0 es,bJ (p::t)=e0::es:=⟨_,_,rfl⟩;rw[hq] at hs hr ⊢;have aK:e0::es≠[]:=af;have wO:bK jj 7 (e0::es)=.own jj 7 (e0::es):=if_neg aK;rw[wO];unfold room at hr;simp only[jc,cE] at hr;simp only[fM,uT] at hs;simp only[go_sem,i109,fj,fM];simp only[hs,hr,not_true_eq_false,if_true,if_false];simp only[go_sem];exact MY rz rfl
def jw(g ab b:Int)(p:Pc):Pc:=if (p.l.kind==1)&&((p.l.gate==g)&&decide (ab<p.l.aA)) then {p with l:={p.l with aA:=p.l.aA+b}} else p
abbrev dT(l:List Pc)(g ab b:Int):List Pc:=l.map (jw g ab b)
def ad7(id:Nat)(es:List (List PV))(c:C)(blk:aB)(v:V)(ak:aB):Prop:=v=.tup []/\grown id jj 7 es (.one c) ak/\Kept (· =id) blk ak
theorem ao8{al:Al}{blk:aB}{id:Nat}{l:List Pc}{c:C}{g ab b:Int}(o:l=[]\/al.ok id=true)(hl:l.length<=1000000)(hb: -100<=b/\b<=100)(hr:∀p∈l,-1000000<=p.l.aA/\p.l.aA<=1000000)(h:grown id jj 7 (bJ l) (.one c) blk):
  ∃v ak,jd S 107 [.one c,vi g,vi ab,vi b] al blk v ak/\ad7 id (bJ (dT l g ab b)) c blk v ak:=by
 refine oY c107 (hU rfl) ?_;rcases h with ⟨h1,h2⟩|⟨aK,gg,h2,hC⟩
 .cases h2;have Ga:l=[]:=by simpa using h1
  subst Ga;have hz:¬(((0:Nat):Int)<((0:Nat):Int)):=aa;simp only[go_sem,i107];refine cQ (fun k aj ak=>k=0/\aj 10=vi ((0:Nat):Int)/\aj 11=vi ((0:Nat):Int)/\ak=blk) 0 0 (aZ _) ?_ ?_
  .simp only[go_sem];exact rfl
  rintro k aj ak _ ⟨rfl,dm,eF,rfl⟩
  simp only[go_sem,i107_l1,dm,eF,hz];exact⟨rfl,.inl ⟨rfl,rfl⟩,fun _ _=>rfl⟩
 cases h2;have o:=o.resolve_left (by simpa using aK);simp only[go_sem,i107];refine cQ (fun k aj ak=>aj 0=.one (.hsl id gg 7 0 l.length)/\aj 1=vi g/\aj 2=vi ab/\aj 3=vi b/\aj 10=vi l.length/\aj 11=vi k/\ak id=(gg,some (.arr jj 7 (bJ ((dT (l.take k) g ab b)++l.drop k))))/\Kept (· =id) blk ak) 0 l.length (aY _) ?_ ?_
 .simp only[go_sem,hC];refine⟨?_,?_⟩
  .simp[]
  exact Kept.refl _ _
 rintro k aj ak hk ⟨h0,h1,h2,h3,dm,eF,hF,cU⟩
 by_cases aq:k<l.length
 .have aJ:((k:Int)<(l.length:Int)):=aa;obtain⟨p,hp⟩:=aI aq;have w1:=bG (n:=k) aa;obtain⟨r1,r2⟩:=hr p (aQ hp);have wr:=sF (x:=p.l.aA+b) aa aa;have F1:l.drop k=p::l.drop (k+1):=by
   obtain⟨hh,rfl⟩:=aV.1 hp;exact yI hh
  have hlen:((dT (l.take k) g ab b)++l.drop k).length=l.length:=by simp[dT];omega
  have gh:((dT (l.take k) g ab b)++l.drop k)[k]?=some p:=by
   rw[nV (by simp[dT];omega)];have:k-(dT (l.take k) g ab b).length=0:=by simp[dT];omega
   rw[this,F1];rfl
  have km:((dT (l.take k) g ab b)++l.drop k).set k (jw g ab b p)=(dT (l.take (k+1)) g ab b)++l.drop (k+1):=by
   have e1:(dT (l.take k) g ab b).length=k:=by simp[dT];omega
   rw[List.set_append_right _ _ aa,e1,Nat.sub_self,F1,List.set_cons_zero,kW,hp];simp[dT]
  have ez:=iO gh;have El:bJ (((dT (l.take k) g ab b)++l.drop k).set k (jw g ab b p))=(bJ ((dT (l.take k) g ab b)++l.drop k)).set k (jw g ab b p).ps:=by simp[bJ,List.map_set]
  rw[km] at El;have AQ:jw g ab b p=p->bJ ((dT (l.take k) g ab b)++l.drop k)=bJ ((dT (l.take (k+1)) g ab b)++l.drop (k+1)):=fun e=>by rw[El,e];obtain⟨hh,he⟩:=aV.1 ez;rw[<- he,List.set_getElem_self]
  generalize (dT (l.take k) g ab b)++l.drop k=m at hF gh ez El AQ hlen;have kJ:k<(bJ m).length:=by rw[cF];omega
  cases c1:(p.l.kind==1) with
  |false=>have e:=AQ (by unfold jw;rw[c1];rfl);simp only[go_sem,i107_l1,h0,h1,h2,h3,dm,eF,hF,ez,Pc.ps,aq,aJ,c1,w1,o];exact⟨by rw[e],cU⟩
  |true=>
   cases c2:(p.l.gate==g) with
   |false=>have e:=AQ (by unfold jw;rw[c1,c2];rfl);simp only[go_sem,i107_l1,h0,h1,h2,h3,dm,eF,hF,ez,Pc.ps,aq,aJ,c1,c2,w1,o];exact⟨by rw[e],cU⟩
   |true=>
    by_cases c3:ab<p.l.aA
    .have e:(jw g ab b p).ps=[.int .i64 p.l.kind,.int .i64 p.l.gate,.int .i64 (p.l.aA+b),.int .i64 p.l.id,.int .i64 p.l.sign,.bool p.l.over,.bool p.d]:=by unfold jw;rw[c1,c2,decide_eq_true c3];rfl
     rw[e] at El;simp only[go_sem,i107_l1,h0,h1,h2,h3,dm,eF,hF,ez,Pc.ps,aq,aJ,c1,c2,c3,w1,wr,o];refine⟨?_,?_⟩
     .first|rw[El]|(rw[El];rfl)
     exact cU.cZ rfl _
    have e:=AQ (by unfold jw;rw[c1,c2,decide_eq_false c3];rfl);simp only[go_sem,i107_l1,h0,h1,h2,h3,dm,eF,hF,ez,Pc.ps,aq,aJ,c1,c2,c3,w1,o];exact⟨by rw[e],cU⟩
 have:k=l.length:=aa;subst this;simp only[go_sem,i107_l1,dm,eF,dZ];refine⟨rfl,?_,cU⟩;rw[jo,List.drop_length,oN] at hF;exact .inr ⟨by simpa using aK,gg,by simp[dT],hF⟩
def CN(p:Pc):Bool:=(p.l.kind==1)&&p.d
def M7(l:List Pc)(i:Nat):Bool:=match l[i]? with|some p=>CN p|none=>false
theorem M8{l:List Pc}{i:Nat}{p:Pc}(h:l[i]?=some p):M7 l i=CN p:=by simp[M7,h]
def rT(l:List Pc):Option Nat:=(List.range l.length).find? (M7 l)
theorem aip(p:Pc):aH S 78 [.agg (p.ps.map .p)] (rb (CN p)):=by
 refine ba c78 ?_;unfold CN;cases h:(p.l.kind==1) with
 |true=>simp only[go_sem,i78,Pc.ps,h]
 |false=>simp only[go_sem,i78,Pc.ps,h]
theorem als(l:List Pc)(hl:l.length<=1000000):aH S 77 [.one (.p (.sl (bJ l))),.one (.p (.fn 78 [] []))] (ri (match rT l with|some k=>(k:Int)|none=> -1)):=by
 refine ba c77 ?_;simp only[go_sem,i77];refine cQ (fun k aj blk=>aj 0=.one (.p (.sl (bJ l)))/\aj 1=.one (.p (.fn 78 [] []))/\aj 7=vi l.length/\aj 8=vi k/\ ∀j,j<k->M7 l j=false) 0 l.length (aY _) ?_ ?_
 .simp only[go_sem];exact⟨rfl,fun j hj=>absurd hj (tA j)⟩
 rintro k aj blk hk ⟨h0,h1,h7,h8,hn⟩
 by_cases aq:k<l.length
 .have aJ:((k:Int)<(l.length:Int)):=aa;obtain⟨p,hp⟩:=aI aq;have ez:=iO hp;have w1:=bG (n:=k) aa;have pd:=aip p;have qA:=M8 hp;cases hb:CN p with
  |true=>rw[hb] at pd qA;have hf:rT l=some k:=DI aq hn qA;simp only[Pc.ps,dG,lK] at pd;simp only[go_sem,i77_l1,h0,h1,h7,h8,aJ,ez,Pc.ps,s78,cH pd,hf]
  |false=>
   rw[hb] at pd qA;simp only[Pc.ps,dG,lK] at pd;simp only[go_sem,i77_l1,h0,h1,h7,h8,aq,aJ,ez,Pc.ps,s78,cH pd,w1];intro j hj;rcases nZ.1 hj with h|rfl
   .exact hn j h
   exact qA
 have:k=l.length:=aa;subst this;have hf:rT l=none:=K9 hn;simp only[go_sem,i77_l1,i77_r2,h7,h8,dZ,hf]
abbrev CG:Nat:=65
def vF(l:List Pc)(ajx k:Nat):List Let:=(List.range k).map fun i=>(l.getD ((ajx+i)%l.length) ⟨kP,false⟩).l
theorem aoL{l:List Pc}{f k:Nat}{p:Pc}(h:l[(f+k)%l.length]?=some p):vF l f (k+1)=vF l f k++[p.l]:=by simp[vF,uv,cJ,h]
def nj(l:List Pc):List Let:=vF l ((rT l).getD 0) l.length
abbrev w9(o:List Let):List (List PV):=o.map Let.ps
theorem ajU{s1 t1 z1:Nat}{es:List (List PV)}{c:C}{x:PV}{blk:aB}(h:grown s1 t1 z1 es (.one c) blk):kx blk (.agg [.p x,c])=some (.agg [.p x,bK t1 z1 es]):=by obtain⟨c',o,hc,h2,h3⟩:=h.lG;cases hc;rcases h3 with rfl|rfl<;>simp[kx,tL,oa,mN,h2,(show Go.Abs.lG blk (.p x)=some (.p x,[],[]) from rfl),apart,vE,ti]
theorem Z6(F:Nat)(l:List Pc)(hl:l.length<=1000000)(x1 x2 x3 x4 x5 x6:PV):aH S 46 [.one (.p (.box [.int .i64 F,x1,x2,x3,x4,x5,x6])),.one (.p (.sl (bJ l)))] (.agg [.p (.int .i64 F),bK CG 6 (w9 (nj l))]):=by
 have px:=als l hl;have hfd:∃f,(rT l).getD 0=f/\(l≠[]->f<l.length):=by
  refine⟨_,rfl,fun aK=>?_⟩;cases h:rT l with
  |none=>exact iR.2 aK
  |some k=>exact fk.1 (Ko h)
 obtain⟨f,hf,qu⟩:=hfd;have sa:((rT l=none/\f=0)\/rT l=some f):=by
  cases h:rT l with
  |none=>rw[h] at hf;exact .inl ⟨rfl,hf.symm⟩
  |some k=>rw[h] at hf;exact .inr (congrArg some hf)
 unfold nj;rw[hf];have main:∀(aj:Env) (blk:aB),aj 1=.one (.p (.sl (bJ l)))->aj 4=.one (.bt 2944000000 1 0)->aj 5=.one (.bt 2944064320 1 0)->aj 6=vi f->aj 17=vi l.length->aj 18=vi ((0:Nat):Int)->blk 2944000000=(1,some (.var [.p (.int .i64 0),.p .nils]))->blk 2944064320=(1,some (.var [.p (.int .i64 F),.p .nils]))->
   W S .all (.loop i46_l1) (rG 0 (Bj S .all i46_r2 (qL .all [(4,some (some 2))] fun v blk=>kx blk v=some (.agg [.p (.int .i64 F),bK CG 6 (w9 (vF l f l.length))])))) aj blk:=by
  intro aj blk e1 e4 e5 e6 e17 e18 b0 bO;refine cQ (fun k aj blk=>aj 1=.one (.p (.sl (bJ l)))/\aj 4=.one (.bt 2944000000 1 0)/\aj 5=.one (.bt 2944064320 1 0)/\aj 6=vi f/\aj 17=vi l.length/\aj 18=vi k/\blk 2944000000=(1,some (.var [.p (.int .i64 0),.p .nils]))/\ ∃c,blk 2944064320=(1,some (.var [.p (.int .i64 F),c]))/\grown 2944384832 CG 6 (w9 (vF l f k)) (.one c) blk) 0 l.length (aY _) ⟨e1,e4,e5,e6,e17,e18,b0,.p .nils,bO,.inl ⟨rfl,rfl⟩⟩ ?_;rintro k aj blk hk ⟨h1,h4,h5,h6,u9,rW,b0,c,bO,gc⟩
  by_cases aq:k<l.length
  .have aJ:((k:Int)<(l.length:Int)):=aa;have aK:l≠[]:=iR.1 aa;have qu:=qu aK;have w1:=bG (n:=k) aa;have w2:=wrap_add (a:=f) (b:=k) aa;have e2:=uj (f+k) l.length;have hm:=dw (f+k) (show 0<l.length by omega);obtain⟨p,hp⟩:=aI hm;have ez:=iO hp;have hz:¬((l.length:Int)=0):=aa;have hr:=aoL hp;have hle:(vF l f k).length=k:=by simp[vF]
   simp only[go_sem,i46_l1,h1,h5,h6,u9,rW,bO,aJ,w2,e2,hz,ez,Pc.ps];refine y9 (site:=2944384832) (id:=2944384832) (bytes:=48) (xs:=[p.l.ps]) (rd:=[2944384768]) (gc.of_eq (aN ae)) (by simp[eT,aS,Let.ps]) (.inl rfl) (by simp only[cF,hle,cE,dQ];omega) fun c' bc r u hc hb hru=>?_;have bO1:=(hb 2944064320 ae ae).trans ((aN ae).trans bO);have b01:=(hb 2944000000 ae ae).trans ((aN ae).trans b0);simp only[go_sem,h1,h4,h5,h6,u9,rW,bO1,b01,aq,w1];refine⟨?_,c',rfl,?_⟩
   .rcases hru with ⟨rfl,rfl⟩|⟨rfl,rfl⟩|⟨rfl,rfl⟩<;>kernel_rfl
   rw[hr,w9,iS];exact hc.of_eq (aN ae)
  have:k=l.length:=aa;subst this;simp only[go_sem,i46_l1,i46_r2,h4,h5,u9,rW,bO,b0,dZ];exact ajU (gc.of_eq (aN ae))
 refine ba c46 ?_;rcases sa with ⟨hn,rfl⟩|hs
 .rw[hn] at px;have Mj:¬((0:Int)< -1):=ae;simp only[go_sem,i46,s77,dV px];exact main _ _ (by simp only[go_sem]) (by simp only[go_sem]) (by simp only[go_sem]) (by simp only[go_sem];rfl) (by simp only[go_sem]) (by simp only[go_sem];rfl) (by simp only[go_sem]) (by simp only[go_sem])
 rw[hs] at px;simp only[go_sem,i46,s77,dV px];exact main _ _ (by simp only[go_sem]) (by simp only[go_sem]) (by simp only[go_sem]) (by simp only[go_sem];split<;>(first|rfl|(congr 1;simp;omega))) (by simp only[go_sem]) (by simp only[go_sem];rfl) (by simp only[go_sem]) (by simp only[go_sem])
theorem abP:aH S 44 [] (.agg [.p .vx,.p (.fn 68 [] []),.p (.fn 69 [] []),.p (.fn 70 [] []),.p (.fn 71 [] []),.p (.fn 72 [] []),.p (.fn 73 [] []),.p (.fn 74 [] []),.p (.fn 75 [] []),.p (.fn 76 [] []),.p (.fn 76 [] [])]):=by refine ba c44 ?_;simp only[go_sem,i44];rfl
def ig(k:Int):Int×Int:=if k=2 then (2,0) else if k=5 then (2,1) else if k=7 then (4,2) else (0,0)
theorem aaK(k:Int):aH S 45 [vi k] (.tup [.one (.p (.int .i64 (ig k).1)),.one (.p (.int .i64 (ig k).2))]):=by
 refine ba c45 ?_;unfold ig;by_cases h2:k=2
 .subst h2;simp only[go_sem,i45];rfl
 by_cases h5:k=5
 .subst h5;simp only[go_sem,i45];rfl
 by_cases h7:k=7
 .subst h7;simp only[go_sem,i45];rfl
 rw[if_neg h2,if_neg h5,if_neg h7];have e2:(k==2)=false:=by simpa using h2
 have e5:(k==5)=false:=by simpa using h5
 have e7:(k==7)=false:=by simpa using h7
 simp only[go_sem,i45,e2,e5,e7];rfl
theorem Ke(F:Nat)(x:Nat)(sg:Int)(ov:Bool)(x1 x2 x3 x4 x6:PV)(k:Nat)(hx:x<=1000000)(hk:k<=10):aH S 114 [.one (.p (.box [.int .i64 F,x1,x2,x3,x4,.int .i64 x,x6])),vi k,vi sg,vb ov] (.agg [.p (.int .i64 2),.p (.int .i64 0),.p (.int .i64 0),.p (.int .i64 ((x+k:Nat):Int)),.p (.int .i64 sg),.p (.bool ov),.p (.bool false)]):=by have w:=wrap_add (a:=x) (b:=k) aa;refine ba c114 ?_;simp only[go_sem,i114,w];rfl
def yx(o:List (Nat×Nat))(p:Nat×Nat)(i:Nat):Bool:=o[i]?==some p
theorem anD(o:List (Nat×Nat))(p:Nat×Nat)(hl:o.length<=1000000):aH S 140 [.one (.p (.sl (jF o))),.agg [.p (.int .i64 p.1),.p (.int .i64 p.2)]] (ri (match (List.range o.length).find? (yx o p) with|some k=>(k:Int)|none=> -1)):=by
 refine ba c140 ?_;simp only[go_sem,i140];refine cQ (fun k aj blk=>aj 0=.one (.p (.sl (jF o)))/\aj 3=.one (.bt 8960000000 1 0)/\blk 8960000000=(1,some (.var [.p (.int .i64 p.1),.p (.int .i64 p.2)]))/\aj 7=vi o.length/\aj 8=vi k/\ ∀j,j<k->yx o p j=false) 0 o.length (aY _) ?_ ?_
 .simp only[go_sem];exact⟨rfl,fun j hj=>absurd hj (tA j)⟩
 rintro k aj blk hk ⟨h0,h3,b0,h7,h8,hn⟩
 by_cases aq:k<o.length
 .have aJ:((k:Int)<(o.length:Int)):=aa;obtain⟨q,hp⟩:=aI aq;have ez:=anA hp;have w1:=bG (n:=k) aa;have qA:yx o p k=decide (q=p):=by
   simp only[yx,hp];by_cases h:q=p<;>simp[h]
  by_cases hb:q=p
  .subst hb;have hf:=DI (p:=yx o q) aq hn (by rw[qA];simp);simp only[go_sem,i140_l1,h0,h3,b0,h7,h8,aJ,ez,hf,pF,qh];exact aD
  have hpf:yx o p k=false:=by rw[qA];exact decide_eq_false hb
  have aK:((p.1:Int)==(q.1:Int))=false\/(((p.1:Int)==(q.1:Int))=true/\((p.2:Int)==(q.2:Int))=false):=by
   by_cases h1:q.1=p.1
   .refine .inr ⟨by simp[h1],?_⟩;have:q.2≠p.2:=fun h2=>hb (Prod.ext h1 h2);simp;omega
   left;simp;omega
  have Ct:∀j,j<k+1->yx o p j=false:=fun j hj=>by
   rcases nZ.1 hj with h|rfl
   .exact hn j h
   exact hpf
  rcases aK with e1|⟨e1,e2⟩
  .simp only[go_sem,i140_l1,h0,h3,b0,h7,h8,aq,aJ,ez,w1,pF,qh,e1];exact⟨aD,Ct⟩
  simp only[go_sem,i140_l1,h0,h3,b0,h7,h8,aq,aJ,ez,w1,pF,qh,e1,e2];exact⟨aD,Ct⟩
 have:k=o.length:=aa;subst this;have hf:=K9 (p:=yx o p) hn;simp only[go_sem,i140_l1,i140_r2,h7,h8,dZ,hf]
theorem ahV(o:List (Nat×Nat))(p:Nat×Nat)(hl:o.length<=1000000):aH S 108 [.one (.p (.sl (jF o))),.agg [.p (.int .i64 p.1),.p (.int .i64 p.2)]] (rb (decide (p∈o))):=by
 have pi:=anD o p hl;refine ba c108 ?_;by_cases hm:p∈o
 .obtain⟨k,hk⟩:=jy hm;have dM:=(aV.1 hk).1;cases hf:(List.range o.length).find? (yx o p) with
  |none=>have:=Hf.1 hf k (fk.2 dM);simp[yx,hk] at this
  |some j=>rw[hf] at pi;have mI:(0:Int)<=(j:Int):=aa;simp only[go_sem,i108,s140,dV pi,mI,hm]
 cases hf:(List.range o.length).find? (yx o p) with
 |some j=>have h1:=List.find?_some hf;simp only[yx,beq_iff_eq] at h1;exact absurd (aQ h1) hm
 |none=>rw[hf] at pi;have mI:¬(0:Int)<= -1:=ae;simp only[go_sem,i108,s140,dV pi,mI,hm]
theorem KO{l:List Pc}(aK:l≠[])(hl:l.length<=1000000):aH S 109 [.one (.p (.sl (bJ l)))] (.one (bK jj 7 (bJ l))):=by
 cases l with
 |nil=>exact absurd rfl aK
 |cons p t=>exact ahF p t hl
section
variable {Q:ef} {aj:Env} {blk:aB} {os:List ch} {d:Option Nat}
theorem Iv{id:Nat}{l:List Pc}{c:C}{g ab b:Int}(hl:l.length<=1000000)(hb: -100<=b/\b<=100)(hr:∀p∈l,-1000000<=p.l.aA/\p.l.aA<=1000000)(hg:grown id jj 7 (bJ l) (.one c) blk)
  (hK:∀ak,grown id jj 7 (bJ (dT l g ab b)) (.one c) ak->(∀i,i≠id->ak i=blk i)->RN S .all os Q (put aj d (.tup [])) ak):gP S .all (.sc 107 [.one c,vi g,vi ab,vi b]) d os Q aj blk:=by
 have ho:l=[]\/(allow (S.ctx .all) 107 [.one c,vi g,vi ab,vi b] blk).ok id=true:=by
  rcases PW hg with ⟨h,_⟩|h
  .exact .inl (by simpa using h)
  exact .inr (BA (by simp[h]))
 refine wD (P:=ad7 id (bJ (dT l g ab b)) c blk) Cv (ao8 ho hl hb hr hg) ?_;rintro v ak ⟨rfl,h1,h2⟩
 exact hK ak h1 h2
end
theorem amd(fs:List Fc):∀(j:Nat) (L:List Nat),∀v∈qE fs j L,v∈L\/v<j+fs.length:=by
 have km:∀(ds:List Nat) (L:List Nat) (x:Nat),∀v∈oI L ds x,v∈L\/v=x:=by
  intro ds
  induction ds with
  |nil=>intro L x v h;exact .inl h
  |cons d ds ih=>
   intro L x v h;rcases ih (L.set d x) x v h with h|h
   .rcases List.mem_or_eq_of_mem_set h with h|h
    .exact .inl h
    exact .inr h
   exact .inr h
 induction fs with
 |nil=>intro j L v h;exact .inl h
 |cons f r ih=>
  intro j L v h;rcases ih (j+1) (oI L f.dd j) v h with h|h
  .rcases km _ _ _ v h with h|h
   .exact .inl h
   subst h;exact .inr af
  exact .inr (by simp only[cE];omega)
def MS:Fc:=⟨false,[],[],[],false⟩
def lQ(F:Nat)(ls:List Let)(d:Nat):Fc:=(dS F ls).getD ((iN F ls).getD d 0) MS
theorem GB(F:Nat)(ls:List Let):(iN F ls).length=2*ls.length:=by simp[iN,Pl]
theorem K7(g:ct F ls){d:Nat}(hd:d<2*ls.length):∃j,(iN F ls)[d]?=some j/\(dS F ls)[j]?=some (lQ F ls d)/\j<(dS F ls).length:=by
 obtain⟨j,hj⟩:=aI (ls:=iN F ls) (k:=d) (by rw[GB];exact hd);have hn:0<(dS F ls).length:=by rw[ZY,g.nw];omega
 have k8:j<(dS F ls).length:=by
  rcases amd (dS F ls) 0 _ j (aQ hj) with h|h
  .have:=QE h;omega
  omega
 refine⟨j,hj,?_,k8⟩;obtain⟨f,hf⟩:=aI k8;unfold lQ;rw[cJ (l:=iN F ls),hj,kA,cJ,hf];rfl
def pV(b:Nat)(r:Int)(d:Bool):Pc:=⟨⟨1,b,r,0,0,false⟩,d⟩
def vU(ls:List Let)(av b c:Nat)(f:Fc)(side:Bool):List Pc:=dK (dT (pieces ls) b c 2) [pV b (if f.ek !=side then ((c+2:Nat):Int) else ((c+1:Nat):Int)) f.ek,pV b (if f.ek !=side then ((c+1:Nat):Int) else ((c+2:Nat):Int)) (!f.ek)] av
def u4(F:Nat)(ls:List Let)(av b c:Nat):Option (List Pc):=
 if (b,c)∈(lQ F ls (2*av)).places then some (vU ls av b c (lQ F ls (2*av)) false)
 else if (b,c)∈(lQ F ls (2*av+1)).places then some (vU ls av b c (lQ F ls (2*av+1)) true) else none
def kR (o:Option (List Pc)):RV:=.tup [.one (bK jj 7 (bJ (o.getD []))),.one (.p (.bool o.isSome))]
theorem Na(g:ct F ls):∀p∈pieces ls,-1000000<=p.l.aA/\p.l.aA<=1000000:=by
 intro p hp;obtain⟨i,hi⟩:=jy hp;have oh:i<ls.length:=by rw[<- eW];exact(aV.1 hi).1
 obtain⟨l,hl⟩:=aI oh;rw[nL hl] at hi;cases hi;rcases g.ok.kinds l (aQ hl) with h|h
 .have hg:=g.ok.ax.eQ l (aQ hl) h;have:=hg.r0;have:=hg.r1;have hc:cg ls l.gate.toNat<=ls.length:=sM _ _;have:=g.len;simp only;omega
 have:=(MT (f:=F) h).1 (g.bad l (aQ hl));simp only[this.1.2];omega
theorem Xh{F:Nat}{ls:List Let}(g:ct F ls){av b c k:Nat}(ha:av<ls.length)(IA:b<=F)(hc:c<=1000){l o:Bool}{sg:Int}(hk:k<2){aj:Env}{blk:aB}{Q:ef}
  (h0:aj 0=.one (.p (dj F ls))) (h3:aj 3=.one (.bt 4416000000 1 0)) (h6:aj 6=.one (.bt 4416064320 1 0)) (h7:aj 7=.one (.bt 4416128448 1 0)) (h8:aj 8=.one (.bt 4416192448 1 0)) (h40:aj 40=vi k)
  (b3:blk 4416000000=(1,some (.var [.p (.int .i64 2),.p (.int .i64 av),.p (.int .i64 b),.p (.int .i64 c),.p (.bool l),.p (.bool o),.p (.int .i64 sg)]))) (b6:blk 4416064320=(1,some (.var [.p (.int .i64 b),.p (.int .i64 c)])))
  (b7:blk 4416128448=(1,some (.var ((pV b ((c+1:Nat):Int) true).ps.map .p)))) (b8:blk 4416192448=(1,some (.var ((pV b ((c+2:Nat):Int) false).ps.map .p))))
  (dF:(b,c)∉(lQ F ls (2*av+k)).places->∀aE ak,aE 0=aj 0->aE 3=aj 3->aE 6=aj 6->aE 7=aj 7->aE 8=aj 8->aE 40=vi ((k+1:Nat):Int)->(∀i,i≠4416577088->ak i=blk i)->W S .all (.loop i69_l1) (rG 0 Q) aE ak)
  (abp:(b,c)∈(lQ F ls (2*av+k)).places->∀aE ak s cc,aE 4=.one cc->aE 5=vb true->grown s jj 7 (bJ (vU ls av b c (lQ F ls (2*av+k)) (k==1))) (.one cc) ak->Q .ret aE ak):
  W S .all (.loop i69_l1) (rG 0 Q) aj blk:=by
 have hlen:=g.len;have D0:=g.fing;obtain⟨j,zA,jK,yg⟩:=K7 g (d:=2*av+k) aa;have Gb:=aQ jK;have sY:=iA zA;have wM:=K8 jK;have aq:((k:Int)<2):=aa;have bh:(lQ F ls (2*av+k)).places.length<=1000000:=by obtain⟨w,hw,he⟩:=dr.1 Gb;obtain⟨_,wW,hwm⟩:=zZ g.ok w hw;have h1:=(ZV g.ok hwm w.length (aZ _)).2.1;rw[ZU,he] at h1;have iK:(aC ls).length<=ls.length:=uy ls ls.length;have h2:w.length*(2*F+2)<=1600*82:=Nat.mul_le_mul (by unfold nD at wW;omega) aa;omega
 generalize L0:lQ F ls (2*av+k)=f at*;have pc:=ahV f.places (b,c) bh;have m2:=qF (a:=av) aa;have m3:=wrap_add (a:=2*av) (b:=k) aa;have w1:=bG (n:=k) aa;have IE:2*av+k<(iN F ls).length:=by rw[GB];omega
 have aK:pieces ls≠[]:=iR.1 (by rw[eW];omega);have akX:=eW ls;have pcl:=KO aK aa;have pP:S.lone 4416896256=false:=ah;have sB:S.lone 4417024384=false:=ah;have eC:S.shared 107=true:=ah;refine oU ?_;by_cases hm:(b,c)∈f.places
 .have Cc:decide ((b,c)∈f.places)=true:=decide_eq_true hm;rw[Cc] at pc;have vm:(!f.ek==(((k:Nat):Int)==1))=(f.ek !=(k==1)):=by
   rcases(show k=0\/k=1 by omega) with rfl|rfl<;>cases f.ek<;>rfl
  have Ga:(bJ (dT (pieces ls) b c 2)).length=(pieces ls).length:=by simp[dT]
  have t1:List.take (pieces ls).length (bJ (dT (pieces ls) b c 2))=bJ (dT (pieces ls) b c 2):=fY (by rw[Ga];exact aZ _);cases hs:(f.ek !=(k==1)) with
  |true=>
    rw[hs] at vm;simp only[go_sem,i69_l1,h0,h3,h6,h7,h8,h40,b3,b6,b7,b8,aq,m2,m3,sY,wM,Fc.ps,vm,pV,Pc.ps,s108,cH pc];refine⟨aD,aD,?_⟩;refine jH pcl pP (.inl rfl) fun cc bc gc aR=>?_;have e3:=aR 4416000000 ae;have e7:=aR 4416128448 ae;have e8:=aR 4416192448 ae;simp only[go_sem,b3] at e3 e7 e8;simp only[go_sem,h3,e3,eC];refine Iv (l:=pieces ls) aa ae (Na g) gc fun aT oc aU=>?_;have e3':=(aU 4416000000 ae).trans e3;have e7':=(aU 4416128448 ae).trans e7;have e8':=(aU 4416192448 ae).trans e8;rcases oc with ⟨e,_⟩|⟨_,gg,e,ik⟩
    .exact absurd (by simpa [dT] using e) aK
    cases e;simp only[go_sem,h3,h7,h8,e3',e7',e8',ik,Ga,t1,s110];refine jH (jv (dT (pieces ls) b c 2) [pV b ((c+2:Nat):Int) f.ek,pV b ((c+1:Nat):Int) (!f.ek)] av (by rw[cF];omega) (by rw[cF];omega) af) sB (.inr (fh (gk _))) fun c2 jz B5 kG=>?_;simp only[go_sem];exact abp hm _ _ _ c2 (by simp only[go_sem]) (by simp only[go_sem]) (by unfold vU;rw[hs];exact B5)
  |false=>
    rw[hs] at vm;simp only[go_sem,i69_l1,h0,h3,h6,h7,h8,h40,b3,b6,b7,b8,aq,m2,m3,sY,wM,Fc.ps,vm,pV,Pc.ps,s108,cH pc];refine⟨aD,aD,?_⟩;refine jH pcl pP (.inl rfl) fun cc bc gc aR=>?_;have e3:=aR 4416000000 ae;have e7:=aR 4416128448 ae;have e8:=aR 4416192448 ae;simp only[go_sem,b3] at e3 e7 e8;simp only[go_sem,h3,e3,eC];refine Iv (l:=pieces ls) aa ae (Na g) gc fun aT oc aU=>?_;have e3':=(aU 4416000000 ae).trans e3;have e7':=(aU 4416128448 ae).trans e7;have e8':=(aU 4416192448 ae).trans e8;rcases oc with ⟨e,_⟩|⟨_,gg,e,ik⟩
    .exact absurd (by simpa [dT] using e) aK
    cases e;simp only[go_sem,h3,h7,h8,e3',e7',e8',ik,Ga,t1,s110];refine jH (jv (dT (pieces ls) b c 2) [pV b ((c+1:Nat):Int) f.ek,pV b ((c+2:Nat):Int) (!f.ek)] av (by rw[cF];omega) (by rw[cF];omega) af) sB (.inr (fh (gk _))) fun c2 jz B5 kG=>?_;simp only[go_sem];exact abp hm _ _ _ c2 (by simp only[go_sem]) (by simp only[go_sem]) (by unfold vU;rw[hs];exact B5)
 have Cc:decide ((b,c)∈f.places)=false:=decide_eq_false hm;rw[Cc] at pc;simp only[go_sem,i69_l1,h0,h3,h6,h40,b3,b6,aq,m2,m3,sY,wM,Fc.ps,s108,cH pc,w1];refine⟨aD,dF hm _ _ ?_ ?_ ?_ ?_ ?_ ?_ fun i hi=>?_⟩
 .simp only[go_sem,h0]
 .simp only[go_sem,h3]
 .simp only[go_sem,h6]
 .simp only[go_sem,h7]
 .simp only[go_sem,h8]
 .simp only[go_sem]
 simp only[aS,if_neg hi]
theorem agN(g:ct F ls){av b c:Nat}(ha:av<ls.length)(IA:b<=F)(hc:c<=1000){l o:Bool}{sg:Int}:
  aH S 69 [.one (.p (dj F ls)),gK 2 av b c l o sg] (kR (u4 F ls av b c)):=by
 have w1:=bG (n:=c) aa;have w2:IntKind.i64.wrap ((c:Int)+2)=((c+2:Nat):Int):=(sF (x:=(c:Int)+2) aa aa).trans aa;have hlen:=g.len;have Cu:(((pieces ls).length:Int)==0)=false:=beq_eq_false_iff_ne.2 (by rw[eW];omega);have tQ:∀aE ak s cc (L:List Pc),u4 F ls av b c=some L->aE 4=.one cc->aE 5=vb true->grown s jj 7 (bJ L) (.one cc) ak->
   rG 0 (Bj S .all i69_r2 (qL .all [(4,none),(5,none)] fun v blk=>kx blk v=some (kR (u4 F ls av b c)))) .ret aE ak:=fun aE ak s cc L hL h4 h5 hg=>by
  simp only[go_sem,h4,h5];rw[hL];exact jB hg
 refine ba c69 ?_;simp only[go_sem,i69,w1,w2,Cu];have k0:2*av+0=2*av:=rfl;refine Xh g ha IA hc (k:=0) aa (l:=l) (o:=o) (sg:=sg) ?_ ?_ ?_ ?_ ?_ ?_ ?_ ?_ ?_ ?_ ?_ ?_
 .simp only[go_sem]
 .simp only[go_sem]
 .simp only[go_sem]
 .simp only[go_sem]
 .simp only[go_sem]
 .simp only[go_sem];rfl
 .simp only[go_sem]
 .simp only[go_sem]
 .simp only[go_sem];rfl
 .simp only[go_sem];rfl
 .intro hm aE ak q0 q3 q6 q7 q8 q40 hb;have pK:(b,c)∉(lQ F ls (2*av)).places:=hm;simp only[go_sem] at q0 q3 q6 q7 q8;refine Xh g ha IA hc (k:=1) aa (l:=l) (o:=o) (sg:=sg) q0 q3 q6 q7 q8 q40 ?_ ?_ ?_ ?_ ?_ ?_
  .rw[hb _ ae];simp only[go_sem]
  .rw[hb _ ae];simp only[go_sem]
  .rw[hb _ ae];simp only[go_sem];rfl
  .rw[hb _ ae];simp only[go_sem];rfl
  .intro mJ cS aT p0 p3 p6 p7 p8 Jz aU;have hr:u4 F ls av b c=none:=by unfold u4;rw[if_neg pK,if_neg mJ]
   have mI:¬(((1+1:Nat):Int)<2):=ae;refine oU ?_;simp only[go_sem,i69_l1,i69_r2,Jz,mI,hr];rfl
  intro mJ cS aT s cc h4 h5 hg;exact tQ cS aT s cc _ (by unfold u4;rw[if_neg pK,if_pos mJ];rfl) h4 h5 hg
 intro hm cS aT s cc h4 h5 hg;have pK:(b,c)∈(lQ F ls (2*av)).places:=hm;exact tQ cS aT s cc _ (by unfold u4;rw[if_pos pK];rfl) h4 h5 hg
def EG(ls:List Let)(av:Nat)(sg:Int)(o:Bool):List Pc:=dK (pieces ls) [⟨⟨2,0,0,((au Let.aw ls/2+1:Nat):Int),sg,o⟩,false⟩,⟨⟨2,0,0,((au Let.aw ls/2+1:Nat):Int),sg,!o⟩,false⟩] av
theorem amy(g:ct F ls){av:Nat}(ha:av<ls.length){b c:Int}{l o:Bool}{sg:Int}:
  aH S 72 [.one (.p (dj F ls)),gK 5 av b c l o sg] (kR (some (EG ls av sg o))):=by
 have dX:=g.cr;have yy:=Ke F (au Let.aw ls/2) sg o (.sl (bJ (pieces ls))) (.sl (ni (dS F ls))) (.sl (nP (iN F ls))) (.int .i64 (au Let.ay ls:Nat)) (.sl (nP (counts ls F))) 1 aa aa;have yz:=Ke F (au Let.aw ls/2) sg (!o) (.sl (bJ (pieces ls))) (.sl (ni (dS F ls))) (.sl (nP (iN F ls))) (.int .i64 (au Let.ay ls:Nat)) (.sl (nP (counts ls F))) 1 aa aa;have hlen:=g.len;have akX:=eW ls;have pin:=jv (pieces ls) [⟨⟨2,0,0,((au Let.aw ls/2+1:Nat):Int),sg,o⟩,false⟩,⟨⟨2,0,0,((au Let.aw ls/2+1:Nat):Int),sg,!o⟩,false⟩] av aa aa af;have lo:S.lone 4608065280=false:=ah
 refine ba c72 ?_;have c1:((1:Nat):Int)=1:=rfl;rw[c1] at yy yz;have gI:∀blk:aB,∀s,∀x1 x2 x3 x4 x5 x6 x7:PV,land blk [] s ((RV.agg [.p x1,.p x2,.p x3,.p x4,.p x5,.p x6,.p x7]).gV (S.lone s))=some (.agg [.p x1,.p x2,.p x3,.p x4,.p x5,.p x6,.p x7],[]):=fun blk s x1 x2 x3 x4 x5 x6 x7=>by cases S.lone s<;>rfl
 simp only[go_sem,i72,s114,gR yy (gI _ _ _ _ _ _ _ _ _),gR yz (gI _ _ _ _ _ _ _ _ _),s110];refine jA pin lo (.inr (fh (gk _))) fun cc bc w gc hb hw=>?_;simp only[go_sem];refine⟨?_,jB gc⟩;rcases hw with rfl|rfl<;>kernel_rfl
def jD(n:Nat)(i:Int):Bool:=decide (0<=i)&&decide (i<(n:Int))
theorem abH(i:Int)(n:Nat):aH S 67 [vi i,.one (.p (.box [.int .i64 n]))] (rb (jD n i)):=by
 refine ba c67 ?_;unfold jD;by_cases h1:0<=i
 .by_cases h2:i<(n:Int)
  .simp only[go_sem,i67,h1,h2]
  simp only[go_sem,i67,h1,h2]
 simp only[go_sem,i67,h1]
theorem adV(l:List Let):((w9 l).all fun e=>e.all PV.scalar)=true:=by simp[Let.ps,PV.scalar]
abbrev uP(F:Nat)(L:List Let):RV:=.tup [.agg [.p (.int .i64 F),bK CG 6 (w9 L)],.one (.p (.int .i64 0))]
def we(F:Nat)(ls:List Let)(k:Int):Option (List Pc)->RV
 |none=>th 4
 |some L=>if (400:Int)<(ls.length:Int)+(ig k).1\/(100:Int)<((au Let.aw ls/2:Nat):Int)+(ig k).2 then th 7 else uP F (nj L)
def MJ(l:List Pc)(drop:Nat->Pc->Bool)(i:Nat):Option Pc:=match l[i]? with|some p=>if drop i p then none else some p|none=>none
def oq(l:List Pc)(drop:Nat->Pc->Bool)(k:Nat):List Pc:=(List.range k).filterMap (MJ l drop)
def mf(l:List Pc)(drop:Nat->Pc->Bool):List Pc:=oq l drop l.length
theorem w8{l:List Pc}{drop:Nat->Pc->Bool}{k:Nat}{p:Pc}(h:l[k]?=some p)(hd:drop k p=true):oq l drop (k+1)=oq l drop k:=by simp[oq,uv,List.filterMap_append,MJ,h,hd]
theorem CB{l:List Pc}{drop:Nat->Pc->Bool}{k:Nat}{p:Pc}(h:l[k]?=some p)(hd:drop k p=false):oq l drop (k+1)=oq l drop k++[p]:=by simp[oq,uv,List.filterMap_append,MJ,h,hd]
theorem Jh(l:List Pc)(drop:Nat->Pc->Bool)(k:Nat):(oq l drop k).length<=k:=by have:=List.length_filterMap_le (MJ l drop) (List.range k);rwa[vM] at this
theorem BW(g:ct F ls){e:Nat}(he:e<ls.length):aH S 104 [.one (.p (dj F ls)),vi e] (uQ (.int .i64 e) (.int .i64 ((e+1)%ls.length:Nat))):=by have hlen:=g.len;have bh:=eW ls;have w1:=bG (n:=e) aa;have e1:=uj (e+1) ls.length;have hz:¬((ls.length:Int)=0):=aa;refine ba c104 ?_;simp only[go_sem,i104,w1,e1,bh,hz];exact⟨aD,rfl⟩
theorem afq(l:List Pc)(hl:l.length<=1000000){f:Nat}{x y:PV}(hn:x.norm=x/\y.norm=y)(eC:S.shared f=false)(drop:Nat->Pc->Bool)(hd:∀(k:Nat) (p:Pc),l[k]?=some p->aH S f [vi k,.agg (p.ps.map .p),.one (.p x),.one (.p y)] (rb (drop k p))):
  aH S 105 [.one (.p (.sl (bJ l))),.one (.p (.fn f [] [x,y]))] (.one (bK jj 7 (bJ (mf l drop)))):=by
 obtain⟨fR,il⟩:=hn;refine ba c105 ?_;simp only[go_sem,i105];refine cQ (fun k aj blk=>aj 1=.one (.p (.fn f [] [x,y]))/\aj 8=.one (.p (.sl (bJ l)))/\aj 9=vi l.length/\aj 10=vi k/\ ∃c,aj 5=.one c/\grown 6720384192 jj 7 (bJ (oq l drop k)) (.one c) blk) 0 l.length (aY _) ?_ ?_
 .simp only[go_sem];first|exact⟨rfl,_,rfl,.inl ⟨rfl,rfl⟩⟩|exact⟨_,rfl,.inl ⟨rfl,rfl⟩⟩|exact⟨rfl,rfl,_,rfl,.inl ⟨rfl,rfl⟩⟩
 rintro k aj blk hk ⟨h1,h8,h9,dm,c,h5,gc⟩
 by_cases aq:k<l.length
 .have aJ:((k:Int)<(l.length:Int)):=aa;obtain⟨p,hp⟩:=aI aq;have ez:=iO hp;have w1:=bG (n:=k) aa;have pd:=hd k p hp;have dM:=Jh l drop k;simp only[Pc.ps,dG,lK] at pd;cases hb:drop k p with
  |true=>rw[hb] at pd;have hs:=w8 hp hb;simp only[go_sem,i105_l1,h1,h5,h8,h9,dm,aq,aJ,ez,Pc.ps,fR,il,eC,cH pd,w1];refine⟨c,rfl,?_⟩;rw[hs];exact gc.of_eq (by simp only[aS,Nat.reduceEqDiff,if_false])
  |false=>rw[hb] at pd;have hs:=CB hp hb;simp only[go_sem,i105_l1,h1,h5,h8,h9,dm,aJ,ez,Pc.ps,fR,il,eC,cH pd];refine qk (site:=6720384192) (id:=6720384192) (bytes:=56) (xs:=[p.ps]) (rd:=[6720384128]) (gc.of_eq (by simp only[aS,Nat.reduceEqDiff,if_false])) (by simp[eT,aS,Pc.ps]) (.inl rfl) (by simp only[cF,cE,dQ];omega) fun c' bc hc hbk=>?_;simp only[go_sem,h1,h8,h9,dm,aq,w1];refine⟨c',rfl,?_⟩;rw[hs,PH];exact hc
 have:k=l.length:=aa;subst this;simp only[go_sem,i105_l1,i105_r2,h5,h9,dm,dZ];exact sQ gc
theorem arS(l:List Pc)(hl:l.length<=1000000){f:Nat}{x:PV}(hn:x.norm=x)(eC:S.shared f=false)(drop:Nat->Pc->Bool)(hd:∀(k:Nat) (p:Pc),l[k]?=some p->aH S f [vi k,.agg (p.ps.map .p),.one (.p x)] (rb (drop k p))):
  aH S 105 [.one (.p (.sl (bJ l))),.one (.p (.fn f [] [x]))] (.one (bK jj 7 (bJ (mf l drop)))):=by
 have fR:=hn;refine ba c105 ?_;simp only[go_sem,i105];refine cQ (fun k aj blk=>aj 1=.one (.p (.fn f [] [x]))/\aj 8=.one (.p (.sl (bJ l)))/\aj 9=vi l.length/\aj 10=vi k/\ ∃c,aj 5=.one c/\grown 6720384192 jj 7 (bJ (oq l drop k)) (.one c) blk) 0 l.length (aY _) ?_ ?_
 .simp only[go_sem];first|exact⟨rfl,_,rfl,.inl ⟨rfl,rfl⟩⟩|exact⟨_,rfl,.inl ⟨rfl,rfl⟩⟩|exact⟨rfl,rfl,_,rfl,.inl ⟨rfl,rfl⟩⟩
 rintro k aj blk hk ⟨h1,h8,h9,dm,c,h5,gc⟩
 by_cases aq:k<l.length
 .have aJ:((k:Int)<(l.length:Int)):=aa;obtain⟨p,hp⟩:=aI aq;have ez:=iO hp;have w1:=bG (n:=k) aa;have pd:=hd k p hp;have dM:=Jh l drop k;simp only[Pc.ps,dG,lK] at pd;cases hb:drop k p with
  |true=>rw[hb] at pd;have hs:=w8 hp hb;simp only[go_sem,i105_l1,h1,h5,h8,h9,dm,aq,aJ,ez,Pc.ps,fR,eC,cH pd,w1];refine⟨c,rfl,?_⟩;rw[hs];exact gc.of_eq (by simp only[aS,Nat.reduceEqDiff,if_false])
  |false=>rw[hb] at pd;have hs:=CB hp hb;simp only[go_sem,i105_l1,h1,h5,h8,h9,dm,aJ,ez,Pc.ps,fR,eC,cH pd];refine qk (site:=6720384192) (id:=6720384192) (bytes:=56) (xs:=[p.ps]) (rd:=[6720384128]) (gc.of_eq (by simp only[aS,Nat.reduceEqDiff,if_false])) (by simp[eT,aS,Pc.ps]) (.inl rfl) (by simp only[cF,cE,dQ];omega) fun c' bc hc hbk=>?_;simp only[go_sem,h1,h8,h9,dm,aq,w1];refine⟨c',rfl,?_⟩;rw[hs,PH];exact hc
 have:k=l.length:=aa;subst this;simp only[go_sem,i105_l1,i105_r2,h5,h9,dm,dZ];exact sQ gc
theorem Yz(k i j:Nat)(p:Pc):aH S 106 [vi k,.agg (p.ps.map .p),.one (.p (.box [.int .i64 i])),.one (.p (.box [.int .i64 j]))] (rb (decide (k=i)||decide (k=j))):=by
 refine ba c106 ?_;by_cases h1:k=i
 .have e1:((k:Int)==(i:Int))=true:=by simp[h1]
  rw[show(decide (k=i)||decide (k=j))=true by simp[h1]];simp only[go_sem,i106,Pc.ps,e1]
 have e1:((k:Int)==(i:Int))=false:=by simp;omega
 by_cases h2:k=j
 .have e2:((k:Int)==(j:Int))=true:=by simp[h2]
  rw[show(decide (k=i)||decide (k=j))=true by simp[h2]];simp only[go_sem,i106,Pc.ps,e1,e2]
 have e2:((k:Int)==(j:Int))=false:=by simp;omega
 rw[show(decide (k=i)||decide (k=j))=false by simp[h1,h2]];simp only[go_sem,i106,Pc.ps,e1,e2]
def xf(a b:Int):Int:=if a<b then b else a
def CH(a b:Int):Int:=if b<a then b else a
def Bz(ls:List Let)(av:Nat):Option (List Pc):=
 let p:=(pieces ls).getD av ⟨kP,false⟩
 let q:=(pieces ls).getD ((av+1)%ls.length) ⟨kP,false⟩
 if (p.l.kind==1)&&((q.l.kind==1)&&((p.l.gate==q.l.gate)&&((xf p.l.aA q.l.aA-CH p.l.aA q.l.aA==1)&& !(decide (au Let.ay ls<=2)&&decide (0<au Let.aw ls/2)))))
 then some (dT (mf (pieces ls) fun k _=>decide (k=av)||decide (k=(av+1)%ls.length)) p.l.gate (xf p.l.aA q.l.aA) (-2)) else none
theorem UT{l:List Pc}{drop:Nat->Pc->Bool}{p:Pc}(h:p∈mf l drop):p∈l:=by
 obtain⟨i,_,hi⟩:=List.mem_filterMap.1 h;unfold MJ at hi;cases hl:l[i]? with
 |none=>rw[hl] at hi;cases hi
 |some q=>
  rw[hl] at hi;simp only at hi;split at hi
  .cases hi
  cases hi;exact aQ hl
theorem agJ(g:ct F ls){av:Nat}(ha:av<ls.length){k b c:Int}{l o:Bool}{sg:Int}:
  aH S 68 [.one (.p (dj F ls)),gK k av b c l o sg] (kR (Bz ls av)):=by
 have hlen:=g.len;have bh:=eW ls;have pe:=BW g ha;have hm:=dw (av+1) (show 0<ls.length by omega);have mL:=Na g;obtain⟨p,hp⟩:=aI (ls:=pieces ls) (k:=av) aa;obtain⟨q,hq⟩:=aI (ls:=pieces ls) (k:=(av+1)%ls.length) aa;obtain⟨p1,p2⟩:=mL p (aQ hp);obtain⟨q1,q2⟩:=mL q (aQ hq);have iw:=iO hp;have pM:=iO hq;have eC:S.shared 107=true:=ah;have lo:S.lone 4352320320=false:=ah;have dX:=g.cr;unfold Bz;simp only[cJ,hp,hq,kA];refine ba c68 ?_;cases c1:(p.l.kind==1) with
 |false=>
  have n1:(p.l.kind !=1)=true:=by simp[bne,c1]
  simp only[go_sem,i68,s104,dB pe iz,iw,pM,Pc.ps,n1];exact⟨aD,rfl⟩
 |true=>
 have n1:(p.l.kind !=1)=false:=by simp[bne,c1]
 cases c2:(q.l.kind==1) with
 |false=>
  have n2:(q.l.kind !=1)=true:=by simp[bne,c2]
  simp only[go_sem,i68,s104,dB pe iz,iw,pM,Pc.ps,n1,n2];exact⟨aD,rfl⟩
 |true=>
 have n2:(q.l.kind !=1)=false:=by simp[bne,c2]
 cases c3:(p.l.gate==q.l.gate) with
 |false=>
  have n3:(p.l.gate !=q.l.gate)=true:=by simp[bne,c3]
  simp only[go_sem,i68,s104,dB pe iz,iw,pM,Pc.ps,n1,n2,n3];exact⟨aD,rfl⟩
 |true=>
 have n3:(p.l.gate !=q.l.gate)=false:=by simp[bne,c3]
 have sa:(if q.l.aA>p.l.aA then q.l.aA else p.l.aA)=xf p.l.aA q.l.aA:=rfl;have Az:(if q.l.aA<p.l.aA then q.l.aA else p.l.aA)=CH p.l.aA q.l.aA:=rfl;have hmxb: -1000000<=xf p.l.aA q.l.aA/\xf p.l.aA q.l.aA<=1000000:=by unfold xf;split<;>omega
 have hmnb: -1000000<=CH p.l.aA q.l.aA/\CH p.l.aA q.l.aA<=1000000:=by unfold CH;split<;>omega
 have wd:=sF (x:=xf p.l.aA q.l.aA-CH p.l.aA q.l.aA) aa aa;generalize xf p.l.aA q.l.aA=mx at*;generalize CH p.l.aA q.l.aA=mn at*;cases c4:(mx-mn==1) with
 |false=>
  have n4:(mx-mn !=1)=true:=by simp[bne,c4]
  simp only[go_sem,i68,s104,dB pe iz,iw,pM,Pc.ps,n1,n2,n3,sa,Az,wd,n4];exact⟨aD,rfl⟩
 |true=>
 have n4:(mx-mn !=1)=false:=by simp[bne,c4]
 have eQ:∀(X:Prop),X->X:=fun _ h=>h;by_cases c5:au Let.ay ls<=2
 .have n5:((au Let.ay ls:Int)<=2):=aa;by_cases c6:0<au Let.aw ls/2
  .have n6:((0:Int)<((au Let.aw ls/2:Nat):Int)):=aa;rw[decide_eq_true c5,decide_eq_true c6];simp only[go_sem,i68,s104,dB pe iz,iw,pM,Pc.ps,n1,n2,n3,sa,Az,wd,n4,n5,n6];exact⟨aD,rfl⟩
  have n6:¬((0:Int)<((au Let.aw ls/2:Nat):Int)):=aa;rw[decide_eq_true c5,decide_eq_false c6];simp only[go_sem,i68,s104,dB pe iz,iw,pM,Pc.ps,n1,n2,n3,sa,Az,wd,n4,n5,n6,s105];refine⟨aD,?_⟩;refine jH (afq (pieces ls) aa ⟨rfl,rfl⟩ s106 (fun k _=>decide (k=av)||decide (k=(av+1)%ls.length)) (fun k p _=>Yz k av ((av+1)%ls.length) p)) lo (.inr (fh (gk _))) fun cc bc gc hb=>?_;have b8:=hb 4352128896 ae;have b9:=hb 4352128960 ae;simp only[go_sem] at b8 b9;simp only[go_sem,b8,b9,sa,eC];refine Iv (l:=mf (pieces ls) fun k _=>decide (k=av)||decide (k=(av+1)%ls.length)) (mU (Jh _ _ _) aa) ae (fun x hx=>mL x (UT hx)) gc fun aT oc aU=>?_;simp only[go_sem];exact jB oc
 have n5:¬((au Let.ay ls:Int)<=2):=aa;rw[decide_eq_false c5];simp only[go_sem,i68,s104,dB pe iz,iw,pM,Pc.ps,n1,n2,n3,sa,Az,wd,n4,n5,s105];refine⟨aD,?_⟩;refine jH (afq (pieces ls) aa ⟨rfl,rfl⟩ s106 (fun k _=>decide (k=av)||decide (k=(av+1)%ls.length)) (fun k p _=>Yz k av ((av+1)%ls.length) p)) lo (.inr (fh (gk _))) fun cc bc gc hb=>?_;have b8:=hb 4352128896 ae;have b9:=hb 4352128960 ae;simp only[go_sem] at b8 b9;simp only[go_sem,b8,b9,sa,eC];refine Iv (l:=mf (pieces ls) fun k _=>decide (k=av)||decide (k=(av+1)%ls.length)) (mU (Jh _ _ _) aa) ae (fun x hx=>mL x (UT hx)) gc fun aT oc aU=>?_;simp only[go_sem];exact jB oc
abbrev iP(o:List Int):List (List PV):=o.map fun n=>[PV.int .i64 n]
theorem oj{o:List Int}{k:Nat}{v:Int}(h:o[k]?=some v):(iP o)[k]?=some [.int .i64 v]:=by simp[h]
def zL(o:List Int)(x:Int)(i:Nat):Bool:=match o[i]? with|some y=>y==x|none=>false
theorem alq(o:List Int)(x:Int)(hl:o.length<=1000000):aH S 156 [.one (.p (.sl (iP o))),vi x] (ri (match (List.range o.length).find? (zL o x) with|some k=>(k:Int)|none=> -1)):=by
 refine ba c156 ?_;simp only[go_sem,i156];refine cQ (fun k aj blk=>aj 0=.one (.p (.sl (iP o)))/\aj 1=vi x/\aj 7=vi o.length/\aj 8=vi k/\ ∀j,j<k->zL o x j=false) 0 o.length (aY _) ?_ ?_
 .simp only[go_sem];exact⟨rfl,fun j hj=>absurd hj (tA j)⟩
 rintro k aj blk hk ⟨h0,h1,h7,h8,hn⟩
 by_cases aq:k<o.length
 .have aJ:((k:Int)<(o.length:Int)):=aa;obtain⟨y,hy⟩:=aI aq;have ez:=oj hy;have w1:=bG (n:=k) aa;have qA:zL o x k=(y==x):=by simp[zL,hy]
  cases hb:(y==x) with
  |true=>
   have xV:(x==y)=true:=by have:=beq_iff_eq.1 hb;simp[this]
   rw[hb] at qA;have hf:=DI (p:=zL o x) aq hn qA;simp only[go_sem,i156_l1,h0,h1,h7,h8,aJ,ez,xV,hf];first|done|exact aD|rfl
  |false=>
   have xV:(x==y)=false:=by
    have:¬y=x:=by simpa using hb
    simp;exact fun h=>this h.symm
   rw[hb] at qA;have Ct:∀j,j<k+1->zL o x j=false:=fun j hj=>by
    rcases nZ.1 hj with h|rfl
    .exact hn j h
    exact qA
   simp only[go_sem,i156_l1,h0,h1,h7,h8,aq,aJ,ez,xV,w1];first|exact Ct|exact⟨aD,Ct⟩
 have:k=o.length:=aa;subst this;have hf:=K9 (p:=zL o x) hn;simp only[go_sem,i156_l1,i156_r2,h7,h8,dZ,hf]
theorem ahT(o:List Int)(x:Int)(hl:o.length<=1000000):aH S 143 [.one (.p (.sl (iP o))),vi x] (rb (o.contains x)):=by
 have pi:=alq o x hl;refine ba c143 ?_;cases hm:o.contains x with
 |true=>
  have Cp:x∈o:=by simpa using hm
  obtain⟨k,hk⟩:=jy Cp;have dM:=(aV.1 hk).1;cases hf:(List.range o.length).find? (zL o x) with
  |none=>have:=Hf.1 hf k (fk.2 dM);simp[zL,hk] at this
  |some j=>rw[hf] at pi;have mI:(0:Int)<=(j:Int):=aa;simp only[go_sem,i143,s156,dV pi,mI]
 |false=>
  have Cp:x∉o:=by simpa using hm
  cases hf:(List.range o.length).find? (zL o x) with
  |some j=>
   have h1:=List.find?_some hf;unfold zL at h1;cases ho:o[j]? with
   |none=>rw[ho] at h1;cases h1
   |some y=>
    rw[ho] at h1;have:y=x:=by simpa using h1
    subst this;exact absurd (aQ ho) Cp
  |none=>rw[hf] at pi;have mI:¬(0:Int)<= -1:=ae;simp only[go_sem,i143,s156,dV pi,mI]
def sN(ids:List Int)(_:Nat)(p:Pc):Bool:=(p.l.kind==2)&&ids.contains p.l.id
theorem aix(ids:List Int)(hl:ids.length<=1000000)(k:Nat)(p:Pc):aH S 142 [vi k,.agg (p.ps.map .p),.one (.p (.box [.sl (iP ids)]))] (rb (sN ids k p)):=by
 have pc:=ahT ids p.l.id hl;refine ba c142 ?_;unfold sN;cases h:(p.l.kind==2) with
 |true=>simp only[go_sem,i142,Pc.ps,h,s143,cH pc]
 |false=>simp only[go_sem,i142,Pc.ps,h]
end
end Go.Abs
