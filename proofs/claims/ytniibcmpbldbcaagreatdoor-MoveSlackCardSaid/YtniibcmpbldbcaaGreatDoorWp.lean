/- A part. -/
import Derived.Test.YtniibcmpbldbcaaGreatDoorWn
set_option linter.all false
set_option maxRecDepth 100000
set_option maxHeartbeats 16000000
namespace Go.Abs
section
variable{ws:List Int}{F:Nat}{ls:List Let}
theorem amT(a:Int):aH S 125 [vi a] (rb false):=by refine ba c125 ?_;have h:(a !=a)=false:=af;simp only[go_sem,i125,h]
theorem amk(a b:Int):aH S 163 [vi a,vi b] (rb (tZ a b)):=by have pn:=amT a;refine ba c163 ?_;simp only[go_sem,i163,s125,cH pn,tZ]
theorem Q4(n:Nat)(h:n<=1000000):∃k:Int,aH S 145 [.one (.p (.int .u64 n))] (ri k):=by
 refine⟨((Lib.bitLen n:Nat):Int),⟨1,?_⟩⟩;have hp:S.prim 145 [.one (.p (.int .u64 (n:Int)))]=some (some (ri ((Lib.bitLen n:Nat):Int))):=by show some (M9 [.one (.p (.int .u64 (n:Int)))])=_;simp only[M9];rw[if_pos ⟨aa,aa⟩];rfl
 rw[js,hp]
theorem MF(o:List Int)(k:Nat)(v:Int):(iP o).set k [.int .i64 v]=iP (o.set k v):=by simp[List.map_set]
theorem wZ(o:List Int):(iP o).length=o.length:=cF _
def Fa(lt:Int->Int->Bool)(id g ty:Nat)(es:List Int)(blk:aB)(v:V)(ak:aB):Prop:=v=.tup []/\(∃ws:List Int,ak id=(g,some (.arr ty 1 (iP ws)))/\ws.Perm es/\vQ lt ws 0 ws.length)/\Kept (· =id) blk ak
theorem alw{al:Al}{blk:aB}{id g ty:Nat}{es:List Int}(o:al.ok id=true)(hl:es.length<=1000000)(hC:blk id=(g,some (.arr ty 1 (iP es)))):
  ∃v ak,jd S 157 [.one (.hsl id g 1 0 es.length),vi 0,vi es.length] al blk v ak/\Fa tZ id g ty es blk v ak:=by
 refine oY c157 (hU rfl) ?_;have w0:IntKind.i64.wrap (0+1)=((0+1:Nat):Int):=ae;simp only[go_sem,i157];refine cQ (fun k aj ak=>aj 0=.one (.hsl id g 1 0 es.length)/\aj 1=vi 0/\aj 2=vi es.length/\aj 6=vi ((k+1:Nat):Int)/\ ∃zs:List Int,ak id=(g,some (.arr ty 1 (iP zs)))/\zs.Perm es/\vQ tZ zs 0 (k+1)/\Kept (· =id) blk ak) 0 es.length (aY _) ?_ ?_
 .simp only[go_sem];exact⟨rfl,es,hC,.refl _,fun p q x y _ h1 h2=>aa,Kept.refl _ _⟩
 rintro k aj bc hk ⟨h0,h1,h2,h6,zs,hZ,hp,hs,cU⟩
 have kM:=hp.length_eq;by_cases aq:k+1<es.length
 .have aJ:((k+1:Nat):Int)<(es.length:Int):=aa;obtain⟨x,hx⟩:=aI (ls:=zs) (k:=k+1) aa;simp only[go_sem,i157_l3,h2,h6,aJ];refine cQ (fun q aj ak=>aj 0=.one (.hsl id g 1 0 es.length)/\aj 1=vi 0/\aj 2=vi es.length/\aj 6=vi ((k+1:Nat):Int)/\aj 7=vi ((k+1-q:Nat):Int)/\ ∃ws:List Int,ak id=(g,some (.arr ty 1 (iP ws)))/\yM tZ zs ws x 0 (k+1) (k+1-q)/\Kept (· =id) blk ak) 0 (k+1) (aY _) ?_ ?_
  .simp only[go_sem,h0,h1,h2,h6];exact⟨zs,hZ,yM.start (aY _) hx hs,cU⟩
  rintro q cS aT hq ⟨k0,k1,k2,k6,k7,ws,hW,hI,F8⟩
  have wW:ws.length=es.length:=hI.perm.length_eq.trans kM;have wk:IntKind.i64.wrap (((k+1:Nat):Int)+1)=((k+1+1:Nat):Int):=bG (n:=k+1) aa;by_cases hj0:k+1-q=0
  .have e7:¬((0:Int)<((k+1-q:Nat):Int)):=aa;simp only[go_sem,i157_l1,i157_r2,k0,k1,k2,k6,k7,e7,wk];refine⟨aD,aa,ws,hW,hI.perm.trans hp,hI.stop We (.inl hj0),F8⟩
  obtain⟨j,hj⟩:∃j,k+1-q=j+1:=⟨k-q,aa⟩;have e7:((0:Int)<((j+1:Nat):Int)):=aa;obtain⟨y,hy⟩:=aI (ls:=ws) (k:=j) aa;rw[hj] at hI k7;have wj:IntKind.i64.wrap (((j+1:Nat):Int)-1)=(j:Int):=by rw[vK aa];omega
  have sZ:=oj hI.at';have vt:=oj hy;have j1:j+1<es.length:=by have:=hI.le;omega
  have j2:j<es.length:=aa;have pl:=amk x y;cases kr:tZ x y with
  |false=>rw[kr] at pl;simp only[go_sem,i157_l1,i157_r2,k0,k1,k2,k6,k7,e7,wk,wj,hW,sZ,vt,j1,j2,o,s163,N6 pl];refine⟨aD,aa,ws,rfl,hI.perm.trans hp,hI.stop We (.inr ⟨y,aa,hy,kr⟩),F8⟩
  |true=>rw[kr] at pl;have wJ:=hI.step We (aY _) hy kr;have hjj:¬(j+1=j):=aa;have l1:j+1<ws.length:=aa;have l2:j<ws.length:=aa;simp only[go_sem,i157_l1,i157_r2,k0,k1,k2,k6,k7,e7,wj,hW,sZ,vt,j1,j2,l1,hjj,o,s163,N6 pl,mT,wZ];have Gi:k+1-(q+1)=j:=aa;refine⟨aD,aD,aa,by rw[Gi],(ws.set (j+1) y).set j x,by rw[MF,MF],by rw[Gi];exact wJ,(F8.cZ rfl _).cZ rfl _⟩
 have aJ:¬(((k+1:Nat):Int)<(es.length:Int)):=aa;simp only[go_sem,i157_l3,h2,h6,aJ];exact⟨rfl,⟨zs,hZ,hp,hs.mono (.inl aa)⟩,cU⟩
theorem xM{Q:ef}{al:Al}{aj:Env}{blk:aB}{os:List ch}{d:Option Nat}{f id g ty z o n:Nat}{vs:List V}{es:List (List PV)}{P:V->aB->Prop}(hC:blk id=(g,some (.arr ty z es)))(qZ:(vs.map (mh blk)).flatten=[])(hh:al=.all\/al.ok id=true/\(S.sites f).all al.fs.contains=true)
  (h:∀mW,mW.ok id=true->mW.fs=S.sites f->∃v ak,jd S f (.one (.hsl id g z o n)::vs) mW blk v ak/\P v ak)
  (hK:∀v ak,P v ak->RN S al os Q (put aj d v) ak):gP S al (.sc f (.one (.hsl id g z o n)::vs)) d os Q aj blk:=by
 have hr:((V.one (.hsl id g z o n)::vs).map (mh blk)).flatten=[id]:=by rw[dG,mR,qZ,VF hC];rfl
 refine wD (P:=P) ?_ (h _ (BA (by rw[hr];simp)) rfl) hK;rcases hh with rfl|⟨h1,h2⟩
 .rfl
 refine holds_of ?_ h2;show al.gG ((V.one (.hsl id g z o n)::vs).map (mh blk)).flatten=true;rw[hr];simp[Al.gG,h1]
theorem anp{al:Al}{blk:aB}{id g ty:Nat}{es:List Int}(o:al.ok id=true)(f1:al.fs.contains 157=true)(hl:es.length<=12)(hC:blk id=(g,some (.arr ty 1 (iP es))))(lim:Int):
  ∃v ak,jd S 144 [.one (.hsl id g 1 0 es.length),vi 0,vi es.length,vi lim] al blk v ak/\Fa tZ id g ty es blk v ak:=by
 refine oY c144 (hU rfl) ?_;have w0:IntKind.i64.wrap ((es.length:Int)-0)=(es.length:Int):=by rw[Int.sub_zero];exact sF aa aa
 have iH:(es.length:Int)<=12:=aa;simp only[go_sem,i144];refine oU ?_;simp only[go_sem,i144_l1,w0,iH,s157];refine xM hC (by rfl) (.inr ⟨o,by rw[show S.sites 157=[157] by kernel_rfl];simp only[uT,yH,f1,Fl]⟩) (P:=Fa tZ id g ty es blk) (fun mW h1 _=>alw h1 aa hC) fun v ak hP=>?_;obtain⟨rfl,h2⟩:=hP;simp only[go_sem];exact⟨rfl,h2⟩
theorem V5{al:Al}{blk:aB}{id g ty:Nat}{es:List Int}(o:al.ok id=true)(f1:(S.sites 144).all al.fs.contains=true)(hl:es.length<=12)(hC:blk id=(g,some (.arr ty 1 (iP es)))):
  ∃v ak,jd S 117 [.one (.hsl id g 1 0 es.length)] al blk v ak/\Fa tZ id g ty es blk v ak:=by
 obtain⟨k,pb⟩:=Q4 es.length aa;have wu:IntKind.u64.wrap (es.length:Int)=(es.length:Int):=by
  have e:IntKind.u64.wrap (es.length:Int)=(es.length:Int)%18446744073709551616:=by unfold IntKind.wrap;rfl
  rw[e];omega
 refine oY c117 (hU rfl) ?_;have sbl:S.shared 145=false:=ah;simp only[go_sem,i117,wu,sbl,T1 pb,s144];refine xM hC (by rfl) (.inr ⟨o,f1⟩) (P:=Fa tZ id g ty es blk) (fun mW h1 h2=>anp h1 (by rw[h2];kernel_rfl) hl hC k) fun v ak hP=>?_;obtain⟨rfl,h2⟩:=hP;simp only[go_sem];exact⟨rfl,h2⟩
def lZ(ws:List Int):Nat->List Int
 |0=>[]
 |k+1=>match ws[k]? with
  |some x=>if 0<k/\ws[k-1]?=some x then lZ ws k else lZ ws k++[x]
  |none=>lZ ws k
theorem Yi(ws:List Int):∀k,(lZ ws k).length<=k:=by
 intro k
 induction k with
 |zero=>exact aZ _
 |succ k ih=>
  unfold lZ;split
  .split
   .omega
   simp;omega
  omega
theorem Ru{k:Nat}{x:Int}(h:ws[k+1]?=some x)(hp:ws[k]?=some x):lZ ws (k+2)=lZ ws (k+1):=by
 conv=>lhs;unfold lZ
 rw[h];simp[hp]
theorem Rr{k:Nat}{x y:Int}(h:ws[k+1]?=some x)(hp:ws[k]?=some y)(hn:¬x=y):lZ ws (k+2)=lZ ws (k+1)++[x]:=by
 conv=>lhs;unfold lZ
 rw[h];have:¬y=x:=fun e=>hn e.symm;simp[hp,this]
theorem ah3{x:Int}(h:ws[0]?=some x):lZ ws 1=[x]:=by simp[lZ,h]
def Pt(ws:List Int)(k:Nat):Prop:=∀i x y,i+1<k->ws[i]?=some x->ws[i+1]?=some y-> ¬y=x
theorem Rs:∀k,k<=ws.length->Pt ws k->lZ ws k=ws.take k:=by
 intro k
 induction k with
 |zero=>intro _ _;rfl
 |succ k ih=>
  intro hk h;obtain⟨x,hx⟩:=aI (ls:=ws) (k:=k) aa;have e:=ih aa fun i x y h1=>h i x y aa;have ht:ws.take (k+1)=ws.take k++[x]:=by rw[kW,hx];rfl
  rcases k with _|k
  .rw[ah3 hx,ht];rfl
  obtain⟨y,hy⟩:=aI (ls:=ws) (k:=k) aa;rw[Rr hx hy (h k y x aa hy hx),e,ht]
structure yZ (ws cs:List Int) (k q:Nat):Prop where
 len:cs.length=ws.length
 kl:k=(lZ ws q).length
 pre:cs.take k=lZ ws q
 out:∀p,q-1<=p->cs[p]?=ws[p]?
 kq:k<q
theorem yZ.step{cs:List Int}{k q:Nat}{x y:Int}(h:yZ ws cs k (q+1))(hx:ws[q+1]?=some x)(hy:ws[q]?=some y)(hn:¬x=y):yZ ws (cs.set k x) (k+1) (q+2):=by
 obtain⟨h1,h2,h3,h4,h5⟩:=h;have hl:=Yi ws (q+1);have hq:q+1<ws.length:=(aV.1 hx).1;refine⟨by simpa using h1,by rw[Rr hx hy hn,fc,<- h2];rfl,?_,fun p hp=>?_,aa⟩
 .rw[Rr hx hy hn,kW,mT];have:k<cs.length:=aa;rw[if_pos rfl,if_pos this,List.take_set_of_le (aZ _),h3];rfl
 rw[mT,if_neg aa];exact h4 p aa
theorem yZ.skip{cs:List Int}{k q:Nat}{x:Int}(h:yZ ws cs k (q+1))(hx:ws[q+1]?=some x)(hy:ws[q]?=some x):yZ ws cs k (q+2):=by obtain⟨h1,h2,h3,h4,h5⟩:=h;exact⟨h1,by rw[Ru hx hy];exact h2,by rw[Ru hx hy];exact h3,fun p hp=>h4 p aa,aa⟩
theorem yZ.start{k:Nat}{x:Int}(hk:k+1<ws.length)(h:Pt ws (k+1))(hx:ws[k+1]?=some x)(hy:ws[k]?=some x):yZ ws ws (k+1) (k+2):=by have e:=Rs (k+1) aa h;have e2:lZ ws (k+2)=ws.take (k+1):=(Ru hx hy).trans e;exact⟨rfl,by rw[e2];simp;omega,by rw[e2],fun _ _=>rfl,aa⟩
def Rc(id g ty:Nat)(ws:List Int)(blk:aB)(v:V)(ak:aB):Prop:=v=.one (.hsl id g 1 0 (lZ ws ws.length).length)/\(∃cs:List Int,ak id=(g,some (.arr ty 1 (iP cs)))/\cs.length=ws.length/\cs.take (lZ ws ws.length).length=lZ ws ws.length)/\Kept (· =id) blk ak
theorem alf{cs:List Int}{k:Nat}(hk:k<=cs.length):List.take k (iP cs)++List.replicate (cs.length-k) [PV.int .i64 0]++List.drop (k+(cs.length-k)) (iP cs)=iP (cs.take k++List.replicate (cs.length-k) 0):=by rw[List.drop_of_length_le (by simp;omega),oN];simp only[iP,iS,List.map_replicate,Ad]
theorem Ya{al:Al}{blk:aB}{id g ty:Nat}(o:al.ok id=true)(hl:ws.length<=1000000)(hC:blk id=(g,some (.arr ty 1 (iP ws)))):
  ∃v ak,jd S 118 [.one (.hsl id g 1 0 ws.length)] al blk v ak/\Rc id g ty ws blk v ak:=by
 refine oY c118 (hU rfl) ?_;by_cases h2:ws.length<2
 .have ij:((ws.length:Int)<2):=aa;have im:Pt ws ws.length:=fun i x y h=>aa;have e:=Rs ws.length (aZ _) im;rw[jo] at e;simp only[go_sem,i118,ij];exact⟨by rw[e],⟨ws,hC,rfl,by rw[e,jo]⟩,Kept.refl _ _⟩
 have ij:¬((ws.length:Int)<2):=aa;simp only[go_sem,i118,ij];refine cQ (fun q aj ak=>aj 0=.one (.hsl id g 1 0 ws.length)/\aj 3=vi ((q+1:Nat):Int)/\Pt ws (q+1)/\ak=blk) 0 ws.length (aY _) ?_ ?_
 .simp only[go_sem];exact⟨rfl,fun i x y h=>aa⟩
 rintro q aj bc hq ⟨h0,h3,im,rfl⟩
 by_cases aq:q+1<ws.length
 .have aJ:(((q+1:Nat):Int)<(ws.length:Int)):=aa;obtain⟨x,hx⟩:=aI (ls:=ws) (k:=q+1) aq;obtain⟨y,hy⟩:=aI (ls:=ws) (k:=q) aa;have sZ:=oj hx;have vt:=oj hy;have wj:IntKind.i64.wrap (((q+1:Nat):Int)-1)=(q:Int):=by rw[vK aa];omega
  have wk:=bG (n:=q+1) aa;have q1:q<ws.length:=aa;have q2:q+1<=ws.length:=aa;by_cases e:x=y
  .subst e;simp only[go_sem,i118_l4,h0,h3,aq,aJ,sZ,vt,wj,q1,q2,hC,o];refine⟨aD,?_⟩;refine cQ (fun r aj ak=>aj 0=.one (.hsl id g 1 0 ws.length)/\aj 4=.one (.hsl id g 1 (q+1) (ws.length-(q+1)))/\aj 5=vi ((r+1:Nat):Int)/\ ∃(cs:List Int) (k:Nat),aj 3=vi (k:Nat)/\ak id=(g,some (.arr ty 1 (iP cs)))/\yZ ws cs k (q+2+r)/\q+2+r<=ws.length/\Kept (· =id) bc ak) 0 ws.length (aY _) ?_ ?_
   .simp only[go_sem,h0];exact⟨rfl,ws,q+1,h3,hC,yZ.start aq im hx hy,aa,Kept.refl _ _⟩
   rintro r cS aT hr ⟨k0,k4,k5,cs,k,k3,hB,hI,hqr,cU⟩
   have eo:=hI.len;have dM:=hI.kl;have hkle:=Yi ws (q+2+r);have hkq:=hI.kq;have hI':yZ ws cs k (q+1+r+1):=by rw[show q+1+r+1=q+2+r by omega];exact hI
   by_cases Ek:r+1<ws.length-(q+1)
   .have Ay:(((r+1:Nat):Int)<((ws.length-(q+1):Nat):Int)):=aa;obtain⟨u,hu⟩:=aI (ls:=ws) (k:=q+1+(r+1)) aa;obtain⟨v,hv⟩:=aI (ls:=ws) (k:=q+1+r) aa;have cu:=oj ((hI.out (q+1+(r+1)) aa).trans hu);have cv:=oj ((hI.out (q+1+r) aa).trans hv);have wr:IntKind.i64.wrap (((r+1:Nat):Int)-1)=(r:Int):=by rw[vK aa];omega
    have Kg:=bG (n:=r+1) aa;have wk2:=bG (n:=k) aa;have r1:r<ws.length-(q+1):=aa;have kk:k<ws.length:=aa;have kk2:k<cs.length:=aa;obtain⟨z,hz⟩:=aI kk2;have cz:=oj hz;by_cases e2:u=v
    .subst e2;have Ez:(u !=u)=false:=af;have wJ:=hI'.skip (by rw[show q+1+r+1=q+1+(r+1) by omega];exact hu) hv;simp only[go_sem,i118_l1,k0,k4,k5,k3,Ek,Ay,r1,hB,cu,cv,wr,Kg,Ez,o];refine⟨aD,aa,cs,k,rfl,rfl,by rw[show q+2+(r+1)=q+1+r+2 by omega];exact wJ,aa,cU⟩
    have Ez:=(show(u !=v)=true by simp[e2]);simp only[go_sem,i118_l1,k0,k4,k5,k3,Ek,Ay,r1,hB,cu,cv,wr,Kg,wk2,kk,cz,Ez,o];have wJ:=hI'.step (by rw[show q+1+r+1=q+1+(r+1) by omega];exact hu) hv e2;refine⟨aD,aa,cs.set k u,k+1,rfl,by rw[MF],by rw[show q+2+(r+1)=q+1+r+2 by omega];exact wJ,aa,cU.cZ rfl _⟩
   have Ay:¬(((r+1:Nat):Int)<((ws.length-(q+1):Nat):Int)):=aa;have kk3:k<=ws.length:=aa;have kk4:k+(ws.length-k)<=cs.length:=aa;have aK:¬(ws.length-k=0):=aa;have OP:q+2+r=ws.length:=aa;rw[OP] at hI;have mw:=alf (cs:=cs) (k:=k) aa;rw[eo] at mw;simp only[go_sem,i118_l1,i118_r2,k0,k4,k5,k3,Ay,hB,o,kk3,kk4,aK,List.length_replicate,wZ,mw];obtain⟨i1,i2,i3,i4,i5⟩:=hI;refine⟨by rw[<- i2],⟨_,rz,by simp;omega,?_⟩,cU.cZ rfl _⟩;rw[<- i2,List.take_left' (by simp;omega),i3]
  have e1:=(show(x==y)=false by simp[e]);simp only[go_sem,i118_l4,i118_r3,h0,h3,aq,aJ,sZ,vt,wj,wk,q1,hC,o,e1];refine⟨aD,fun i u v h h4 h5=>?_⟩;by_cases e2:i=q
  .subst e2;rw[hy] at h4;rw[hx] at h5;cases h4;cases h5;exact e
  exact im i u v aa h4 h5
 have aJ:¬(((q+1:Nat):Int)<(ws.length:Int)):=aa;have e:=Rs ws.length (aZ _) (fun i x y h=>im i x y aa);rw[jo] at e;simp only[go_sem,i118_l4,i118_r5,h0,h3,aJ];exact⟨by rw[e],⟨ws,hC,rfl,by rw[e,jo]⟩,Kept.refl _ _⟩



theorem Bw{S:Sys}{f:Nat}{fn:aX}{args:List V}{P:RV->Prop}(hp:S.prim f args=none)(hf:S.fns f=some fn)(hl:args.length<=fn.ntmps)
  (h:W S .all fn.body (qL .all fn.results fun v blk=>∃r,P r/\kx blk v=some r) (sv args) A5):∃r,P r/\aH S f args r:=by
 obtain⟨n,v,ak,h1,r,h3,h2⟩:=QK h;refine⟨r,h3,n+1,?_⟩;rw[js];simp only[hp,hf,hl,if_true];unfold E0;simp only[h1,h2]

def jN(ids:List Int)(k:Nat)(p:Pc):Pc:={p with l:={p.l with id:=p.l.id-((ids.take k).countP (fun i=>decide (i<p.l.id)):Nat)}}
def pQ(ids:List Int)(p:Pc):Pc:=if p.l.kind==2 then jN ids ids.length p else p
abbrev FL(l:List Pc)(ids:List Int):List Pc:=(mf l (sN ids)).map (pQ ids)
abbrev tY(ids:List Int)(l:List Pc)(k:Nat):List Pc:=(l.take k).map (pQ ids)++l.drop k
theorem acg{ids:List Int}{l:List Pc}{k:Nat}{p:Pc}(h:l[k]?=some p):(tY ids l k)[k]?=some p:=by have hk:=(aV.1 h).1;rw[tY,nV (by rw[cF,fJ];omega),cF,fJ,yK aa,Nat.sub_self,ur];exact h
theorem amz(ids:List Int)(l:List Pc)(k:Nat):(tY ids l k).length=l.length:=by rw[tY,fc,cF,fJ,nW];omega
theorem amA{ids:List Int}{l:List Pc}{k:Nat}{p:Pc}(h:l[k]?=some p):(tY ids l k).set k (pQ ids p)=tY ids l (k+1):=by
 have hk:=(aV.1 h).1;have F1:l.drop k=p::l.drop (k+1):=by obtain⟨hh,rfl⟩:=aV.1 h;exact yI hh
 have e1:((l.take k).map (pQ ids)).length=k:=by rw[cF,fJ];omega
 rw[tY,List.set_append_right _ _ aa,e1,Nat.sub_self,F1,List.set_cons_zero,tY,kW,h];simp
theorem zQ(o:List Pc)(k:Nat)(p:Pc):(bJ o).set k p.ps=bJ (o.set k p):=by simp[List.map_set]
theorem YC(l:List Pc)(ids:List Int)(hl:l.length<=1000000)(hi:ids.length<=1000)(hb:∀p∈l,-1000000<=p.l.id/\p.l.id<=1000000):
  aH S 113 [.one (.p (.sl (bJ l))),.one (.p (.sl (iP ids)))] (.one (bK jj 7 (bJ (FL l ids)))):=by
 have pw:=arS l hl (f:=142) (x:=.box [.sl (iP ids)]) rfl s142 (sN ids) (fun k p _=>aix ids aa k p);have lo:S.lone 7232064128=false:=ah;have wS:∀p∈mf l (sN ids),-1000000<=p.l.id/\p.l.id<=1000000:=fun p hp=>hb p (UT hp);have dM:(mf l (sN ids)).length<=1000000:=mU (Jh _ _ _) hl;refine ba c113 ?_;simp only[go_sem,i113,s105];refine jH pw lo (.inr (fh (gk _))) fun cc jQ gc iL=>?_;have z3:=iL 7232000000 ae;simp only[go_sem] at z3;unfold FL;generalize mf l (sN ids)=m at gc wS dM;rcases gc with ⟨e,e2⟩|⟨aK,gg,e2,hC⟩
 .cases e2;have:m=[]:=by simpa using e
  subst this;have hz:¬(((0:Nat):Int)<((0:Nat):Int)):=aa;simp only[go_sem];refine cQ (fun k aj blk=>k=0/\aj 5=.one (.p .nils)/\aj 14=vi ((0:Nat):Int)/\aj 15=vi ((0:Nat):Int)) 0 0 (aZ _) ?_ ?_
  .simp only[go_sem];exact rfl
  rintro k aj blk _ ⟨rfl,h5,mu,qm⟩
  simp only[go_sem,i113_l3,i113_r4,h5,mu,qm,hz];rfl
 cases e2;simp only[go_sem];refine cQ (fun k aj blk=>aj 3=.one (.bt 7232000000 1 0)/\blk 7232000000=(1,some (.var [.p (.sl (iP ids))]))/\aj 5=.one (.hsl 7232064128 gg 7 0 m.length)/\aj 13=.one (.hsl 7232064128 gg 7 0 m.length)/\aj 14=vi m.length/\aj 15=vi k/\blk 7232064128=(gg,some (.arr jj 7 (bJ (tY ids m k))))) 0 m.length (aY _) ?_ ?_
 .simp only[go_sem,z3,hC];refine⟨rfl,?_⟩;simp[tY]
 rintro k aj blk hk ⟨h3,bI,h5,sR,mu,qm,bO⟩
 by_cases aq:k<m.length
 .have aJ:((k:Int)<(m.length:Int)):=aa;obtain⟨p,hp⟩:=aI aq;have wT:=iO (acg (ids:=ids) hp);have w1:=bG (n:=k) aa;have Cs:=amz ids m k;have km:=amA (ids:=ids) hp;have IQ:k<(tY ids m k).length:=aa;cases c1:(p.l.kind==2) with
  |false=>
   have n1:(p.l.kind !=2)=true:=by simp[bne,c1]
   have AQ:tY ids m (k+1)=tY ids m k:=by
    rw[<- km];have e:pQ ids p=p:=by unfold pQ;rw[c1];rfl
    rw[e];obtain⟨hh,he⟩:=aV.1 (acg (ids:=ids) hp);rw[<- he,List.set_getElem_self]
   simp only[go_sem,i113_l3,i113_r2,h3,bI,h5,sR,mu,qm,bO,aq,aJ,wT,Pc.ps,n1,w1,AQ]
  |true=>
   have n1:(p.l.kind !=2)=false:=by simp[bne,c1]
   have hid:=wS p (aQ hp);have tQ:pQ ids p=jN ids ids.length p:=by unfold pQ;rw[c1];rfl
   rw[tQ] at km;generalize tY ids m k=q at wT Cs km IQ bO;have q0:q.set k (jN ids 0 p)=q:=by
    have:jN ids 0 p=p:=by unfold jN;simp
    rw[this];have h1:q[k]?=some p:=by
     have h2:(bJ q)[k]?=some p.ps:=wT;rw[fX] at h2;cases hq:q[k]? with
     |none=>rw[hq] at h2;cases h2
     |some x=>rw[hq] at h2;simp[Pc.ps] at h2;obtain⟨⟨a,b,c,d,e,f⟩,g⟩:=x;obtain⟨⟨a',b',c',d',e',f'⟩,g'⟩:=p;simp at h2;obtain⟨rfl,rfl,rfl,rfl,rfl,rfl,rfl⟩:=h2;rfl
    obtain⟨hh,he⟩:=aV.1 h1;rw[<- he,List.set_getElem_self]
   simp only[go_sem,i113_l3,h3,bI,sR,mu,qm,bO,aq,aJ,wT,Pc.ps,n1];refine cQ (fun j cS aT=>cS 3=.one (.bt 7232000000 1 0)/\aT 7232000000=(1,some (.var [.p (.sl (iP ids))]))/\cS 5=.one (.hsl 7232064128 gg 7 0 m.length)/\cS 13=.one (.hsl 7232064128 gg 7 0 m.length)/\cS 14=vi m.length/\cS 15=vi k/\cS 6=vi k/\cS 24=.one (.p (.sl (iP ids)))/\cS 25=vi ids.length/\cS 26=vi j/\
    (∃g7,cS 7=.one (.bt 7232256192 g7 0)/\aT 7232256192=(g7,some (.var (p.ps.map .p))))/\aT 7232064128=(gg,some (.arr jj 7 (bJ (q.set k (jN ids j p)))))) 0 ids.length (aY _) ?_ ?_
   .simp only[go_sem,h3,bI,h5,sR,mu,qm,bO,q0];first|exact⟨rfl,_,⟨rfl,rfl⟩,rfl⟩|exact⟨rfl,⟨_,rfl,rfl⟩⟩|exact⟨_,rfl,rfl⟩|exact⟨⟨_,rfl,rfl⟩,rfl⟩|exact⟨rfl,⟨_,rfl,rfl⟩,rfl⟩|trace_state
   rintro j cS aT hj ⟨p3,cI,p5,p13,vC,p15,p6,p24,p25,p26,⟨g7,p7,c7⟩,cO⟩
   by_cases pJ:j<ids.length
   .have Cn:((j:Int)<(ids.length:Int)):=aa;obtain⟨d,hd⟩:=aI pJ;have mv:=oj hd;have w2:=bG (n:=j) aa;have sU:(ids.take (j+1)).countP (fun i=>decide (i<p.l.id))=(ids.take j).countP (fun i=>decide (i<p.l.id))+if d<p.l.id then 1 else 0:=by
     rw[kW,hd,uU];simp[uV,List.countP_nil]
    have eo:(ids.take j).countP (fun i=>decide (i<p.l.id))<=j:=mU NC (by rw[fJ];omega);have hqa:(bJ (q.set k (jN ids j p)))[k]?=some (jN ids j p).ps:=iO (by rw[mT,if_pos rfl,if_pos aa]);have Et:k<(q.set k (jN ids j p)).length:=by rw[nX];omega
    by_cases hg:d<p.l.id
    .have e1:(jN ids j p).l.id-1=(jN ids (j+1) p).l.id:=by
      unfold jN;simp only;rw[sU,if_pos hg];omega
     have w3:IntKind.i64.wrap ((jN ids j p).l.id-1)=(jN ids (j+1) p).l.id:=by rw[<- e1];exact sF (by unfold jN;simp only;omega) (by unfold jN;simp only;omega)
     have dh:((jN ids (j+1) p).ps)=[.int .i64 (jN ids j p).l.kind,.int .i64 (jN ids j p).l.gate,.int .i64 (jN ids j p).l.aA,.int .i64 (jN ids (j+1) p).l.id,.int .i64 (jN ids j p).l.sign,.bool (jN ids j p).l.over,.bool (jN ids j p).d]:=rfl;have abl:(bJ (q.set k (jN ids j p))).set k (jN ids (j+1) p).ps=bJ (q.set k (jN ids (j+1) p)):=by rw[zQ,List.set_set]
     rw[dh] at abl;generalize jN ids j p=x at*;simp only[go_sem,i113_l1,p3,cI,p5,p13,vC,p15,p6,p24,p25,p26,p7,c7,cO,aq,pJ,Cn,mv,hg,hqa,Pc.ps,w2,w3,abl];exact⟨g7,rfl,rfl⟩
    have e1:jN ids (j+1) p=jN ids j p:=by unfold jN;rw[sU,if_neg hg];simp
    simp only[go_sem,i113_l1,p3,cI,p5,p13,vC,p15,p6,p24,p25,p26,p7,c7,cO,pJ,Cn,mv,hg,Pc.ps,w2,e1];exact⟨g7,rfl,rfl⟩
   have:j=ids.length:=aa;subst this;rw[km] at cO;simp only[go_sem,i113_l1,i113_r2,p3,cI,p5,p13,vC,p15,p26,p25,cO,dZ,w1,aq]
 have:k=m.length:=aa;subst this;have e1:tY ids m m.length=m.map (pQ ids):=by rw[tY,jo,List.drop_length,oN]
 rw[e1] at bO;simp only[go_sem,i113_l3,i113_r4,h5,mu,qm,dZ];have tV:m.map (pQ ids)≠[]:=by simpa using aK
 exact sQ (.inr ⟨by simpa using tV,gg,af,bO⟩)
theorem ct.ids(g:ct F ls):UK ls/\GG ls:=by have hc:=g.ok.cr;unfold lz at hc;simp only[bQ] at hc;exact Ha.1 fun k hk=>iC.1 hc.1.2 k (fk.2 hk)
theorem Vo{p:Pc}(h:p∈pieces ls):∃(i:Nat) (l:Let),ls[i]?=some l/\p=⟨l,iE ls i⟩:=by
 obtain⟨i,hi⟩:=jy h;have oh:i<ls.length:=by rw[<- eW];exact(aV.1 hi).1
 obtain⟨l,hl⟩:=aI oh;rw[nL hl] at hi;cases hi;exact⟨i,l,hl,rfl⟩
theorem abq(g:ct F ls):∀p∈pieces ls,-1000000<=p.l.id/\p.l.id<=1000000:=by
 intro p hp;obtain⟨i,l,hl,rfl⟩:=Vo hp;have hm:=aQ hl;rcases g.ok.kinds l hm with h|h
 .have:=(lU (f:=(F:Int)) h).1 (g.bad l hm);simp only[this.1.1.2];omega
 have h1:=g.ids.1 l hm h;have:=g.cr;simp only;omega
def CC(ls:List Let)(av:Nat):Option (List Pc):=
 let p:=(pieces ls).getD av ⟨kP,false⟩
 let q:=(pieces ls).getD ((av+1)%ls.length) ⟨kP,false⟩
 if (p.l.kind==2)&&((q.l.kind==2)&&(p.l.id==q.l.id)) then some (FL (pieces ls) [p.l.id]) else none
theorem amx(g:ct F ls){av:Nat}(ha:av<ls.length){k b c:Int}{l o:Bool}{sg:Int}:
  aH S 71 [.one (.p (dj F ls)),gK k av b c l o sg] (kR (CC ls av)):=by
 have hlen:=g.len;have bh:=eW ls;have pe:=BW g ha;have hm:=dw (av+1) (show 0<ls.length by omega);obtain⟨p,hp⟩:=aI (ls:=pieces ls) (k:=av) aa;obtain⟨q,hq⟩:=aI (ls:=pieces ls) (k:=(av+1)%ls.length) aa;have iw:=iO hp;have pM:=iO hq;have lo:S.lone 4544256896=false:=ah;unfold CC;simp only[cJ,hp,hq,kA];refine ba c71 ?_;cases c1:(p.l.kind==2) with
 |false=>
  have n1:(p.l.kind !=2)=true:=by simp[bne,c1]
  simp only[go_sem,i71,s104,dB pe iz,iw,Pc.ps,n1];exact⟨aD,rfl⟩
 |true=>
 have n1:(p.l.kind !=2)=false:=by simp[bne,c1]
 cases c2:(q.l.kind==2) with
 |false=>
  have n2:(q.l.kind !=2)=true:=by simp[bne,c2]
  simp only[go_sem,i71,s104,dB pe iz,iw,pM,Pc.ps,n1,n2];exact⟨aD,rfl⟩
 |true=>
 have n2:(q.l.kind !=2)=false:=by simp[bne,c2]
 cases c3:(p.l.id==q.l.id) with
 |false=>
  have n3:(p.l.id !=q.l.id)=true:=by simp[bne,c3]
  simp only[go_sem,i71,s104,dB pe iz,iw,pM,Pc.ps,n1,n2,n3];exact⟨aD,rfl⟩
 |true=>
 have n3:(p.l.id !=q.l.id)=false:=by simp[bne,c3]
 have pd:=YC (pieces ls) [p.l.id] aa af (abq g);simp only[go_sem,i71,s104,dB pe iz,iw,pM,Pc.ps,n1,n2,n3,s113];refine⟨aD,?_⟩;refine jA pd lo (.inr (fh (gk _))) fun cc bc w gc hb hw=>?_;simp only[go_sem];refine⟨?_,jB gc⟩;rcases hw with rfl|rfl<;>kernel_rfl
abbrev pA(ls:List Let)(i:Nat):Pc:=(pieces ls).getD i ⟨kP,false⟩
theorem iW{i:Nat}{p:Pc}(h:(pieces ls)[i]?=some p):pA ls i=p:=by simp[pA,cJ,h]
abbrev nx(ls:List Let)(e:Nat):Nat:=(e+1)%ls.length
def lM(ls:List Let)(e:Nat)(ov:Bool):Bool:=((pA ls e).l.kind==2)&&(((pA ls (nx ls e)).l.kind==2)&&(((pA ls e).l.over==ov)&&((pA ls (nx ls e)).l.over==ov)))
theorem HH(g:ct F ls){e:Nat}(he:e<ls.length)(ov:Bool):aH S 115 [.one (.p (dj F ls)),vi e,vb ov] (rb (lM ls e ov)):=by
 have hlen:=g.len;have bh:=eW ls;have pe:=BW g he;have hm:=dw (e+1) (show 0<ls.length by omega);obtain⟨p,hp⟩:=aI (ls:=pieces ls) (k:=e) aa;obtain⟨q,hq⟩:=aI (ls:=pieces ls) (k:=(e+1)%ls.length) aa;have iw:=iO hp;have pM:=iO hq;unfold lM;rw[iW hp,iW hq];refine ba c115 ?_;cases c1:(p.l.kind==2) with
 |false=>simp only[go_sem,i115,s104,dB pe iz,iw,Pc.ps,c1]
 |true=>
 cases c2:(q.l.kind==2) with
 |false=>simp only[go_sem,i115,s104,dB pe iz,iw,pM,Pc.ps,c1,c2]
 |true=>
 cases c3:(p.l.over==ov) with
 |false=>simp only[go_sem,i115,s104,dB pe iz,iw,pM,Pc.ps,c1,c2,c3]
 |true=>
 cases c4:(q.l.over==ov) with
 |false=>simp only[go_sem,i115,s104,dB pe iz,iw,pM,Pc.ps,c1,c2,c3,c4]
 |true=>simp only[go_sem,i115,s104,dB pe iz,iw,pM,Pc.ps,c1,c2,c3,c4]
def iX(ls:List Let)(e:Nat):Nat×Nat×Bool:=if (pA ls e).l.kind==2 then (nx ls e,e,(pA ls (nx ls e)).l.kind==1) else (e,nx ls e,((pA ls e).l.kind==1)&&((pA ls (nx ls e)).l.kind==2))
abbrev adP(a b c:PV):RV:=.tup [.one (.p a),.one (.p b),.one (.p c)]
theorem yt{blk:aB}{s:Nat}{a b c:PV}{l:Bool}:land blk [] s ((adP a b c).gV l)=some (.tup [.one (.p a),.one (.p b),.one (.p c)],[]):=by cases l<;>rfl
theorem adg(g:ct F ls){e:Nat}(he:e<ls.length):aH S 111 [.one (.p (dj F ls)),vi e] (adP (.int .i64 ((iX ls e).1:Nat)) (.int .i64 ((iX ls e).2.1:Nat)) (.bool (iX ls e).2.2)):=by
 have hlen:=g.len;have bh:=eW ls;have pe:=BW g he;have hm:=dw (e+1) (show 0<ls.length by omega);obtain⟨p,hp⟩:=aI (ls:=pieces ls) (k:=e) aa;obtain⟨q,hq⟩:=aI (ls:=pieces ls) (k:=(e+1)%ls.length) aa;have iw:=iO hp;have pM:=iO hq;unfold iX;rw[iW hp,iW hq];refine ba c111 ?_;cases c1:(p.l.kind==2) with
 |true=>
  have e1:p.l.kind=2:=by simpa using c1
  rw[if_pos rfl];cases c2:(q.l.kind==1) with
  |true=>simp only[go_sem,i111,s104,dB pe iz,iw,pM,Pc.ps,c1,c2];exact⟨aD,rfl⟩
  |false=>simp only[go_sem,i111,s104,dB pe iz,iw,pM,Pc.ps,c1,c2];exact⟨aD,rfl⟩
 |false=>
  rw[if_neg ae];cases c2:(p.l.kind==1) with
  |true=>
   cases c3:(q.l.kind==2) with
   |true=>simp only[go_sem,i111,s104,dB pe iz,iw,pM,Pc.ps,c1,c2,c3];exact⟨aD,rfl⟩
   |false=>simp only[go_sem,i111,s104,dB pe iz,iw,pM,Pc.ps,c1,c2,c3];exact⟨aD,rfl⟩
  |false=>simp only[go_sem,i111,s104,dB pe iz,iw,Pc.ps,c1,c2];exact⟨aD,rfl⟩
def A9(o:List Nat)(pr:Nat->Bool)(i:Nat):Bool:=match o[i]? with|some v=>pr v|none=>false
theorem alp(o:List Nat)(hl:o.length<=1000000){f:Nat}{x y z:PV}(hn:x.norm=x/\y.norm=y/\z.norm=z)(eC:S.shared f=false)(pr:Nat->Bool)(hd:∀v∈o,aH S f [vi (v:Nat),.one (.p x),.one (.p y),.one (.p z)] (rb (pr v))):
  aH S 124 [.one (.p (.sl (nP o))),.one (.p (.fn f [] [x,y,z]))] (ri (match (List.range o.length).find? (A9 o pr) with|some k=>(k:Int)|none=> -1)):=by
 obtain⟨fR,il,tV⟩:=hn;refine ba c124 ?_;simp only[go_sem,i124];refine cQ (fun k aj blk=>aj 0=.one (.p (.sl (nP o)))/\aj 1=.one (.p (.fn f [] [x,y,z]))/\aj 7=vi o.length/\aj 8=vi k/\ ∀j,j<k->A9 o pr j=false) 0 o.length (aY _) ?_ ?_
 .simp only[go_sem];exact⟨rfl,fun j hj=>absurd hj (tA j)⟩
 rintro k aj blk hk ⟨h0,h1,h7,h8,Em⟩
 by_cases aq:k<o.length
 .have aJ:((k:Int)<(o.length:Int)):=aa;obtain⟨v,hv⟩:=aI aq;have ez:=iA hv;have w1:=bG (n:=k) aa;have pd:=hd v (aQ hv);have qA:A9 o pr k=pr v:=by simp[A9,hv]
  cases hb:pr v with
  |true=>rw[hb] at pd qA;have hf:=DI (p:=A9 o pr) aq Em qA;simp only[go_sem,i124_l1,h0,h1,h7,h8,aJ,ez,eC,fR,il,tV,cH pd,hf]
  |false=>
   rw[hb] at pd qA;simp only[go_sem,i124_l1,h0,h1,h7,h8,aq,aJ,ez,eC,fR,il,tV,cH pd,w1];intro j hj;rcases nZ.1 hj with h|rfl
   .exact Em j h
   exact qA
 have:k=o.length:=aa;subst this;have hf:=K9 (p:=A9 o pr) Em;simp only[go_sem,i124_l1,i124_r2,h7,h8,dZ,hf]
theorem ahS(o:List Nat)(hl:o.length<=1000000){f:Nat}{x y z:PV}(hn:x.norm=x/\y.norm=y/\z.norm=z)(eC:S.shared f=false)(pr:Nat->Bool)(hd:∀v∈o,aH S f [vi (v:Nat),.one (.p x),.one (.p y),.one (.p z)] (rb (pr v))):
  aH S 85 [.one (.p (.sl (nP o))),.one (.p (.fn f [] [x,y,z]))] (rb (o.any pr)):=by
 have pi:=alp o hl hn eC pr hd;obtain⟨fR,il,tV⟩:=hn;refine ba c85 ?_;cases ha:o.any pr with
 |true=>
  obtain⟨v,hv,hp⟩:=List.any_eq_true.1 ha;obtain⟨k,hk⟩:=jy hv;have dM:=(aV.1 hk).1;cases hf:(List.range o.length).find? (A9 o pr) with
  |none=>have:=Hf.1 hf k (fk.2 dM);simp[A9,hk,hp] at this
  |some j=>rw[hf] at pi;have mI:(0:Int)<=(j:Int):=aa;simp only[go_sem,i85,s124,dV pi,mI]
 |false=>
  cases hf:(List.range o.length).find? (A9 o pr) with
  |some j=>
   have h1:=List.find?_some hf;unfold A9 at h1;cases ho:o[j]? with
   |none=>rw[ho] at h1;cases h1
   |some v=>rw[ho] at h1;have:=Dh.1 ha v (aQ ho);exact absurd h1 this
  |none=>rw[hf] at pi;have mI:¬(0:Int)<= -1:=ae;simp only[go_sem,i85,s124,dV pi,mI]
def zc(f:Fc)(e:Nat):Nat:=f.dd.countP fun d=>d/2==e
def DC(f:Fc)(pl:Nat)(edges:List Nat):Bool:=(f.dd.length==edges.length)&&((f.places.length==pl)&&edges.all fun e=>zc f e==1)
theorem Ye(g:ct F ls){j:Nat}{f:Fc}(hf:(dS F ls)[j]?=some f)(edges:List Nat)(he:edges.length<=1000)(pl:Nat):
  aH S 141 [vi j,.one (.p (.box [dj F ls])),.one (.p (.box [.sl (nP edges)])),.one (.p (.box [.int .i64 pl]))] (rb (DC f pl edges)):=by
 have hlen:=g.len;have iK:(aC ls).length<=ls.length:=uy ls ls.length;have IE:=TQ g.ok (aQ hf);have im:nD ls<=1600:=by unfold nD;omega
 have wM:=K8 hf;have k8:=(aV.1 hf).1;refine ba c141 ?_;unfold DC;cases c1:(f.dd.length==edges.length) with
 |false=>
  have n1:(((f.dd.length:Nat):Int)!=((edges.length:Nat):Int))=true:=by
   have:¬f.dd.length=edges.length:=by simpa using c1
   simp[bne];omega
  simp only[go_sem,i141,wM,Fc.ps,n1]
 |true=>
 have n1:(((f.dd.length:Nat):Int)!=((edges.length:Nat):Int))=false:=by
  have:f.dd.length=edges.length:=by simpa using c1
  simp[bne,this]
 cases c2:(f.places.length==pl) with
 |false=>
  have n2:(((f.places.length:Nat):Int)!=((pl:Nat):Int))=true:=by
   have:¬f.places.length=pl:=by simpa using c2
   simp[bne];omega
  simp only[go_sem,i141,wM,Fc.ps,n1,n2]
 |true=>
 have n2:(((f.places.length:Nat):Int)!=((pl:Nat):Int))=false:=by
  have:f.places.length=pl:=by simpa using c2
  simp[bne,this]
 simp only[go_sem,i141,wM,Fc.ps,n1,n2];refine cQ (fun k aj blk=>aj 6=.one (.bt 9024064448 1 0)/\blk 9024064448=(1,some (.var (f.ps.map .p)))/\aj 32=.one (.p (.sl (nP edges)))/\aj 33=vi edges.length/\aj 34=vi k/\ ∀i e,i<k->edges[i]?=some e->(zc f e==1)=true) 0 edges.length (aY _) ?_ ?_
 .simp only[go_sem,Fc.ps];first|exact⟨rfl,fun i e hi=>absurd hi (tA i)⟩|exact⟨rfl,rfl,fun i e hi=>absurd hi (tA i)⟩|exact fun i e hi=>absurd hi (tA i)
 rintro k aj blk hk ⟨h6,b6,h32,Ln,h34,ao⟩
 simp only[Fc.ps,dG,lK] at b6;by_cases aq:k<edges.length
 .have aJ:((k:Int)<(edges.length:Int)):=aa;obtain⟨e,hek⟩:=aI aq;have LX:=iA hek;have w1:=bG (n:=k) aa;simp only[go_sem,i141_l4,h6,b6,h32,Ln,h34,aJ,LX];refine cQ (fun i cS aT=>cS 6=.one (.bt 9024064448 1 0)/\aT 9024064448=(1,some (.var (f.ps.map .p)))/\cS 32=.one (.p (.sl (nP edges)))/\cS 33=vi edges.length/\cS 34=vi k/\cS 8=vi e/\cS 9=vi ((f.dd.take i).countP fun d=>d/2==e:Nat)/\cS 39=.one (.p (.sl (nP f.dd)))/\cS 40=vi f.dd.length/\cS 41=vi i) 0 f.dd.length (aY _) ?_ ?_
  .simp only[go_sem,h6,b6,h32,Ln,h34,Fc.ps];first|exact⟨rfl,rfl⟩|exact rfl|exact⟨rfl,rfl,rfl⟩
  rintro i cS aT hi ⟨p6,d6,p32,p33,ES,p8,p9,p39,Jz,p41⟩
  by_cases uJ:i<f.dd.length
  .have abc:((i:Int)<(f.dd.length:Int)):=aa;obtain⟨d,hd⟩:=aI uJ;have mv:=iA hd;have w2:=bG (n:=i) aa;have wq:=wrap_small (n:=d/2) (by have:=TP (aQ hf) d (aQ hd);omega);have eo:(f.dd.take i).countP (fun d=>d/2==e)<=i:=mU NC (by rw[fJ];omega);have w3:=bG (n:=(f.dd.take i).countP fun d=>d/2==e) aa;have sU:(f.dd.take (i+1)).countP (fun d=>d/2==e)=(f.dd.take i).countP (fun d=>d/2==e)+if (d/2==e)=true then 1 else 0:=by
    rw[kW,hd,uU];simp[uV,List.countP_nil]
   cases vd:(d/2==e) with
   |true=>
    have n3:(((d/2:Nat):Int)==(e:Int))=true:=by
     have:d/2=e:=by simpa using vd
     simp;omega
    rw[vd,if_pos rfl] at sU;simp only[go_sem,i141_l1,p6,p32,p33,ES,p8,p9,p39,Jz,p41,uJ,abc,mv,eD,fy,wq,n3,w2,w3,sU];first|exact d6|exact⟨d6,rfl⟩
   |false=>
    have n3:(((d/2:Nat):Int)==(e:Int))=false:=by
     have:¬d/2=e:=by simpa using vd
     simp;omega
    rw[vd,if_neg ae,rA] at sU;simp only[go_sem,i141_l1,p6,p32,p33,ES,p8,p9,p39,Jz,p41,uJ,abc,mv,eD,fy,wq,n3,w2,sU];first|exact d6|exact⟨d6,rfl⟩
  have:i=f.dd.length:=aa;subst this;rw[jo] at p9;have hdc:(f.dd.countP fun d=>d/2==e)=zc f e:=rfl;rw[hdc] at p9;cases hq:(zc f e==1) with
  |true=>
   have n4:(((zc f e:Nat):Int)!=1)=false:=by
    have:zc f e=1:=by simpa using hq
    simp[bne,this]
   simp only[go_sem,i141_l1,i141_r2,i141_r3,p6,p32,p33,ES,p9,Jz,p41,dZ,n4,w1,aq];refine⟨d6,fun i2 e2 hi2 Cf=>?_⟩;rcases nZ.1 hi2 with h|rfl
   .exact ao i2 e2 h Cf
   rw[hek] at Cf;cases Cf;exact hq
  |false=>
   have n4:(((zc f e:Nat):Int)!=1)=true:=by
    have:¬zc f e=1:=by simpa using hq
    simp[bne];omega
   have eK:(edges.all fun e=>zc f e==1)=false:=List.all_eq_false.2 ⟨e,aQ hek,by rw[hq];decide⟩;simp only[go_sem,i141_l1,i141_r2,p9,Jz,p41,dZ,n4,eK]
 have:k=edges.length:=aa;subst this;have eK:(edges.all fun e=>zc f e==1)=true:=iC.2 fun e he=>by obtain⟨i,hi⟩:=jy he;exact ao i e (aV.1 hi).1 hi
 simp only[go_sem,i141_l4,i141_r5,Ln,h34,dZ,eK]
def tF(F:Nat)(ls:List Let)(pl:Nat)(edges:List Nat)(e0:Nat):Bool:=DC (lQ F ls (2*e0)) pl edges||DC (lQ F ls (2*e0+1)) pl edges
theorem Rm(g:ct F ls)(edges:List Nat)(di:edges.length<=1000){e0:Nat}(h0:edges[0]?=some e0)(he0:e0<ls.length)(pl:Nat):
  aH S 112 [.one (.p (dj F ls)),vi pl,.one (.p (.sl (nP edges)))] (rb (tF F ls pl edges e0)):=by
 have hlen:=g.len;obtain⟨j0,a1,a2,a3⟩:=K7 g (d:=2*e0) aa;obtain⟨j1,b1,b2,b3⟩:=K7 g (d:=2*e0+1) aa;have g0:(dS F ls).getD j0 MS=lQ F ls (2*e0):=by rw[cJ,a2];rfl
 have g1:(dS F ls).getD j1 MS=lQ F ls (2*e0+1):=by rw[cJ,b2];rfl
 have pc:=ahS [j0,j1] af (f:=141) (x:=.box [dj F ls]) (y:=.box [.sl (nP edges)]) (z:=.box [.int .i64 pl]) ⟨rfl,rfl,rfl⟩ s141 (fun j=>DC ((dS F ls).getD j MS) pl edges) (fun v hv=>by
  simp only[cT,hJ,or_false] at hv;rcases hv with rfl|rfl
  .rw[g0];exact Ye g a2 edges di pl
  rw[g1];exact Ye g b2 edges di pl)
 have ajZ:([j0,j1].any fun j=>DC ((dS F ls).getD j MS) pl edges)=tF F ls pl edges e0:=by simp only[List.any_cons,List.any_nil,Bool.or_false,g0,g1];rfl
 rw[ajZ] at pc;simp only[dG,lK] at pc;have ja:=iA a1;have jb:=iA b1;have he:=iA h0;have m2:=qF (a:=e0) aa;have m3:=bG (n:=2*e0) aa;have vh:=GB F ls;have l1:2*e0<(iN F ls).length:=aa;have l2:2*e0+1<(iN F ls).length:=aa;have ff:0<edges.length:=(aV.1 h0).1;have hpos':(0:Int)<(edges.length:Int):=aa;refine ba c112 ?_;simp only[go_sem,i112,he,m2,m3,ja,jb,s85,mZ pc];exact aD
def fU(ls:List Let)(l:List Pc)(e:Nat):List Pc:=(l.set e (l.getD (nx ls e) ⟨kP,false⟩)).set (nx ls e) (l.getD e ⟨kP,false⟩)
theorem CZ(ls:List Let)(l:List Pc)(e:Nat):(fU ls l e).length=l.length:=by simp[fU]
def iY(ls:List Let)(l:List Pc)(es:List Nat):List Pc:=es.foldl (fU ls) l
theorem Fe(ls:List Let):∀(es:List Nat) (l:List Pc),(iY ls l es).length=l.length:=by
 intro es
 induction es with
 |nil=>intro l;rfl
 |cons e es ih=>intro l;show(iY ls (fU ls l e) es).length=_;rw[ih,CZ]
theorem aqN(g:ct F ls)(es:List Nat)(jU:∀e∈es,e<ls.length)(di:es.length<=1000):
  aH S 119 [.one (.p (dj F ls)),.one (.p (.sl (nP es)))] (.one (bK jj 7 (bJ (iY ls (pieces ls) es)))):=by
 have hlen:=g.len;have bh:=eW ls;have aK:pieces ls≠[]:=iR.1 (by have:=iR.2 g.ne;omega);have pcl:=KO aK aa;have lo:S.lone 7616064256=false:=ah;refine ba c119 ?_;simp only[go_sem,i119,s109];refine jH pcl lo (.inl rfl) fun cc jQ gc iL=>?_;rcases gc with ⟨e,_⟩|⟨_,gg,e,hC⟩
 .exact absurd (by simpa using e) aK
 cases e;rw[cF,bh];simp only[go_sem];refine cQ (fun k aj blk=>aj 0=.one (.p (dj F ls))/\aj 5=.one (.hsl 7616064256 gg 7 0 ls.length)/\aj 15=.one (.p (.sl (nP es)))/\aj 16=vi es.length/\aj 17=vi k/\blk 7616064256=(gg,some (.arr jj 7 (bJ (iY ls (pieces ls) (es.take k)))))) 0 es.length (aY _) ?_ ?_
 .simp only[go_sem,hC];first|exact⟨rfl,rfl⟩|rfl|exact⟨rfl,rfl,rfl⟩
 rintro k aj blk hk ⟨h0,h5,qm,zk,u9,bO⟩
 by_cases aq:k<es.length
 .have aJ:((k:Int)<(es.length:Int)):=aa;obtain⟨e,he⟩:=aI aq;have LX:=iA he;have LV:=jU e (aQ he);have pe:=BW g LV;have w1:=bG (n:=k) aa;have oi:iY ls (pieces ls) (es.take (k+1))=fU ls (iY ls (pieces ls) (es.take k)) e:=by
   unfold iY;rw[kW,he,Bq];rfl
  have kJ:(iY ls (pieces ls) (es.take k)).length=ls.length:=by rw[Fe,bh]
  have hm:=dw (e+1) (show 0<ls.length by omega);generalize iY ls (pieces ls) (es.take k)=m at bO oi kJ;obtain⟨p,hp⟩:=aI (ls:=m) (k:=e) aa;obtain⟨q,hq⟩:=aI (ls:=m) (k:=(e+1)%ls.length) aa;have ez:=iO hp;have Cw:=iO hq;have l1:e<m.length:=aa;have l2:(e+1)%ls.length<m.length:=aa;have s1:=zQ m e q;have tQ:(m.set e q).set ((e+1)%ls.length) p=fU ls m e:=by unfold fU nx;rw[cJ,hq,cJ,hp];rfl
  have s2:=zQ (m.set e q) ((e+1)%ls.length) p;rw[tQ,<- oi] at s2;simp only[Pc.ps] at s1 s2;obtain⟨p',gE⟩:=aI (ls:=m.set e q) (k:=e) (by rw[nX];omega);obtain⟨q',Gg⟩:=aI (ls:=m.set e q) (k:=(e+1)%ls.length) (by rw[nX];omega);have UD:=iO Gg;simp only[go_sem,i119_l1,h0,h5,qm,zk,u9,bO,aq,aJ,LX,s104,dB pe iz,LV,hm,ez,Cw,UD,s1,s2,Pc.ps,w1];exact aD
 have:k=es.length:=aa;subst this;rw[jo] at bO;simp only[go_sem,i119_l1,i119_r2,h5,zk,u9,dZ];have h1:(iY ls (pieces ls) es).length=ls.length:=by rw[Fe,bh]
 refine sQ (.inr ⟨?_,gg,by rw[cF,h1],bO⟩);intro h2;have:=congrArg List.length h2;rw[cF,h1,dQ] at this;have h3:=iR.2 g.ne;omega
def gA(l:List Pc)(i:Nat)(r:Int):List Pc:=l.set i {(l.getD i ⟨kP,false⟩) with l:={(l.getD i ⟨kP,false⟩).l with aA:=r}}
theorem Be(l:List Pc)(i:Nat)(r:Int):(gA l i r).length=l.length:=by simp[gA]
def BE(F:Nat)(ls:List Let)(av bv:Nat):Option (List Pc):=
 if (iX ls av).2.2&&((iX ls bv).2.2&&(!((iX ls av).2.1==(iX ls bv).2.1)&&(((pA ls (iX ls av).2.1).l.id==(pA ls (iX ls bv).2.1).l.id)&&tF F ls 1 [av,bv] av)))
 then some (iY ls (gA (gA (pieces ls) (iX ls av).1 (pA ls (iX ls bv).1).l.aA) (iX ls bv).1 (pA ls (iX ls av).1).l.aA) [av,bv]) else none
theorem Vx{e:Nat}(he:e<ls.length):(iX ls e).1<ls.length/\(iX ls e).2.1<ls.length:=by
 have hm:=dw (e+1) (show 0<ls.length by omega);unfold iX nx;split
 .exact⟨hm,he⟩
 exact⟨he,hm⟩
theorem agQ(g:ct F ls){av bv:Nat}(ha:av<ls.length)(hb:bv<ls.length){k c:Int}{l o:Bool}{sg:Int}:
  aH S 70 [.one (.p (dj F ls)),gK k av bv c l o sg] (kR (BE F ls av bv)):=by
 have hlen:=g.len;have bh:=eW ls;have pa:=adg g ha;have pb:=adg g hb;have pc:=Rm g [av,bv] af (e0:=av) rfl ha 1;obtain⟨p1,v1⟩:=Vx ha;obtain⟨q1,w1⟩:=Vx hb;unfold BE;generalize iX ls av=x at*;generalize iX ls bv=y at*;obtain⟨pi,Kd,one⟩:=x;obtain⟨qi,wi,two⟩:=y;simp only at pa pb p1 v1 q1 w1 ⊢;simp only[dG,lK] at pc;have c1:((1:Nat):Int)=1:=rfl;rw[c1] at pc;obtain⟨P,hP⟩:=aI (ls:=pieces ls) (k:=pi) aa;obtain⟨Q,hQ⟩:=aI (ls:=pieces ls) (k:=qi) aa;obtain⟨V,hV⟩:=aI (ls:=pieces ls) (k:=Kd) aa
 obtain⟨W,hW⟩:=aI (ls:=pieces ls) (k:=wi) aa;rw[iW hP,iW hQ,iW hV,iW hW];have hPp:=iO hP;have hQp:=iO hQ;have hVp:=iO hV;have hWp:=iO hW;have aK:pieces ls≠[]:=iR.1 aa;have pcl:=KO aK aa;have lo:S.lone 4480384256=false:=ah;refine ba c70 ?_;cases one with
 |false=>simp only[go_sem,i70,s111,dB pa yt,dB pb yt];exact⟨aD,rfl⟩
 |true=>
 cases two with
 |false=>simp only[go_sem,i70,s111,dB pa yt,dB pb yt];exact⟨aD,rfl⟩
 |true=>
 cases c2:(Kd==wi) with
 |true=>
  have n2:((Kd:Int)==(wi:Int))=true:=by simp[show Kd=wi by simpa using c2]
  simp only[go_sem,i70,s111,dB pa yt,dB pb yt,n2];exact⟨aD,rfl⟩
 |false=>
 have n2:((Kd:Int)==(wi:Int))=false:=by
  have:¬Kd=wi:=by simpa using c2
  simp;omega
 cases c3:(V.l.id==W.l.id) with
 |false=>
  have n3:(V.l.id !=W.l.id)=true:=by simp[bne,c3]
  simp only[go_sem,i70,s111,dB pa yt,dB pb yt,n2,hVp,hWp,Pc.ps,n3];exact⟨aD,rfl⟩
 |true=>
 have n3:(V.l.id !=W.l.id)=false:=by simp[bne,c3]
 cases c4:tF F ls 1 [av,bv] av with
 |false=>rw[c4] at pc;simp only[go_sem,i70,s111,dB pa yt,dB pb yt,n2,hVp,hWp,Pc.ps,n3,s112,mZ pc];exact⟨aD,rfl⟩
 |true=>
 rw[c4] at pc;simp only[go_sem,i70,s111,dB pa yt,dB pb yt,n2,hVp,hWp,hPp,hQp,Pc.ps,n3,s112,mZ pc,s109];refine⟨aD,aD,?_⟩;refine jH pcl lo (.inl rfl) fun cc jQ gc iL=>?_;have b3:=iL 4480000000 ae;simp only[go_sem] at b3;rcases gc with ⟨e,_⟩|⟨_,gg,e,hC⟩
 .exact absurd (by simpa using e) aK
 cases e;rw[cF,bh];have s1:=zQ (pieces ls) pi {P with l:={P.l with aA:=Q.l.aA}};have fL:(pieces ls).set pi {P with l:={P.l with aA:=Q.l.aA}}=gA (pieces ls) pi Q.l.aA:=by unfold gA;rw[cJ,hP];rfl
 rw[fL] at s1;have gI:(gA (pieces ls) pi Q.l.aA).length=ls.length:=by rw[Be,bh]
 obtain⟨Q',hQ'⟩:=aI (ls:=gA (pieces ls) pi Q.l.aA) (k:=qi) aa;have ajW:=iO hQ';have s2:=zQ (gA (pieces ls) pi Q.l.aA) qi {Q' with l:={Q'.l with aA:=P.l.aA}};have eH:(gA (pieces ls) pi Q.l.aA).set qi {Q' with l:={Q'.l with aA:=P.l.aA}}=gA (gA (pieces ls) pi Q.l.aA) qi P.l.aA:=by rw[gA.eq_def (gA (pieces ls) pi Q.l.aA),cJ,hQ'];rfl
 rw[eH] at s2;simp only[Pc.ps] at s1 s2;have mJ:(gA (gA (pieces ls) pi Q.l.aA) qi P.l.aA).length=ls.length:=by rw[Be,gI]
 simp only[go_sem,b3,hC,hPp,ajW,Pc.ps,s1,s2,p1,q1];generalize gA (gA (pieces ls) pi Q.l.aA) qi P.l.aA=M at mJ ⊢;obtain⟨es,OR⟩:∃es,es=[av,bv]:=⟨_,rfl⟩;have OO:es.length=2:=by rw[OR];rfl
 have jU:∀e∈es,e<ls.length:=fun e he=>by rw[OR] at he;simp only[cT,hJ,or_false] at he;rcases he with rfl|rfl<;>assumption
 refine cQ (fun k aj blk=>aj 0=.one (.p (dj F ls))/\aj 14=.one (.hsl 4480384256 gg 7 0 ls.length)/\(∃ge,aj 116=.one (.hsl 4480512256 ge 1 0 2)/\blk 4480512256=(ge,some (.arr 3 1 (nP es))))/\aj 117=vi ((2:Nat):Int)/\aj 118=vi k/\blk 4480384256=(gg,some (.arr jj 7 (bJ (iY ls M (es.take k)))))) 0 2 (aY _) ?_ ?_
 .simp only[go_sem];exact⟨⟨_,rfl,by rw[OR];rfl⟩,rfl,rfl⟩
 rintro k aj blk hk ⟨h0,mu,⟨ge,DP,bE⟩,aaL,aaM,bO⟩
 by_cases aq:k<2
 .have aJ:((k:Int)<((2:Nat):Int)):=aa;have Ek:k<es.length:=aa;obtain⟨e,he⟩:=aI Ek;have LX:=iA he;have LV:=jU e (aQ he);have pe:=BW g LV;have w1:=bG (n:=k) aa;have oi:iY ls M (es.take (k+1))=fU ls (iY ls M (es.take k)) e:=by
   unfold iY;rw[kW,he,Bq];rfl
  have kJ:(iY ls M (es.take k)).length=ls.length:=by rw[Fe,mJ]
  have hm:=dw (e+1) (show 0<ls.length by omega);generalize iY ls M (es.take k)=m at bO oi kJ;obtain⟨p,hp⟩:=aI (ls:=m) (k:=e) aa;obtain⟨q,hq⟩:=aI (ls:=m) (k:=(e+1)%ls.length) aa;have ez:=iO hp;have Cw:=iO hq;have l1:e<m.length:=aa;have l2:(e+1)%ls.length<m.length:=aa;have s1:=zQ m e q;have tQ:(m.set e q).set ((e+1)%ls.length) p=fU ls m e:=by unfold fU nx;rw[cJ,hq,cJ,hp];rfl
  have s2:=zQ (m.set e q) ((e+1)%ls.length) p;rw[tQ,<- oi] at s2;simp only[Pc.ps] at s1 s2;obtain⟨q',Gg⟩:=aI (ls:=m.set e q) (k:=(e+1)%ls.length) (by rw[nX];omega);have UD:=iO Gg;simp only[go_sem,i70_l1,h0,mu,DP,aaL,aaM,bE,bO,aq,aJ,LX,s104,dB pe iz,LV,hm,ez,Cw,UD,s1,s2,Pc.ps,w1];first|exact⟨aD,ge,rfl,rfl⟩|exact⟨aD,⟨ge,rfl,rfl⟩⟩|exact⟨aD,⟨ge,rfl,rfl⟩,rfl⟩|trace_state
 have:k=2:=aa;subst this;have e1:es.take 2=[av,bv]:=by rw[OR];rfl
 rw[e1] at bO;have mI:¬(((2:Nat):Int)<((2:Nat):Int)):=aa;simp only[go_sem,i70_l1,i70_r2,mu,aaL,aaM,mI];have h1:(iY ls M [av,bv]).length=ls.length:=by rw[Fe,mJ]
 refine jB (.inr ⟨?_,gg,by rw[kA,cF,h1],bO⟩);intro h2;have:=congrArg List.length h2;rw[kA,cF,h1,dQ] at this;omega
def tm(l:List Pc)(i:Nat)(g r:Int):List Pc:=l.set i {(l.getD i ⟨kP,false⟩) with l:={(l.getD i ⟨kP,false⟩).l with gate:=g,aA:=r}}
def Db(F:Nat)(ls:List Let)(av:Nat):Option (List Pc):=
 if ((pA ls av).l.kind==1)&&(decide ((pA ls av).l.gate<(F:Int))&&((pA ls av).l.aA==(cg ls (pA ls av).l.gate.toNat:Int)))
 then some (tm (dT (pieces ls) ((pA ls av).l.gate+1) 0 1) av ((pA ls av).l.gate+1) 1) else none
theorem aqY(g:ct F ls){av:Nat}(ha:av<ls.length){b c:Int}{l o:Bool}{sg:Int}:
  aH S 76 [.one (.p (dj F ls)),gK 9 av b c l o sg] (kR (Db F ls av)):=by
 unfold Db;have hlen:=g.len;have bh:=eW ls;obtain⟨p,hp⟩:=aI (ls:=pieces ls) (k:=av) aa;have ez:=iO hp;have aK:pieces ls≠[]:=iR.1 aa;have pcl:=KO aK aa;have lo:S.lone 4864256256=false:=ah;have eC:S.shared 107=true:=ah;have mL:=Na g;rw[iW hp];refine ba c76 ?_;cases c1:(p.l.kind==1) with
 |false=>
  have n1:(p.l.kind !=1)=true:=by simp[bne,c1]
  simp only[go_sem,i76,ez,Pc.ps,n1];exact⟨aD,rfl⟩
 |true=>
 have n1:(p.l.kind !=1)=false:=by simp[bne,c1]
 obtain⟨i,l0,pI,nE⟩:=Vo (aQ hp);have zw:sP F ls p.l:=by rw[nE];exact g.ok.ax.eQ l0 (aQ pI) (by rw[nE] at c1;exact c1)
 obtain⟨G,hG⟩:=oL zw.g0;have zo:G<=F:=by have:=zw.g1;omega
 have D0:=g.fing;have wG:=bG (n:=G) aa;have qt:=iA (FI (ls:=ls) zo);have B7:G<(counts ls F).length:=by simp[counts];omega
 have eG:p.l.gate.toNat=G:=by rw[hG];rfl
 rw[eG];by_cases c2:G<F
 .have n2:((G:Int)<(F:Int)):=aa;have d2:decide (p.l.gate<(F:Int))=true:=decide_eq_true (by rw[hG];exact n2);cases c3:(p.l.aA==(cg ls G:Int)) with
  |false=>simp only[go_sem,i76,ez,Pc.ps,n1,hG,s109];refine⟨aD,?_⟩;refine jH pcl lo (.inl rfl) fun cc jQ gc iL=>?_;have b3:=iL 4864000000 ae;have b6:=iL 4864064512 ae;simp only[go_sem] at b3 b6;simp only[go_sem,b3,b6,n2,qt,c3];exact⟨aD,rfl⟩
  |true=>
   have eg1:p.l.gate+1=((G+1:Nat):Int):=by rw[hG];omega
   rw[d2,eg1];simp only[go_sem,i76,ez,Pc.ps,n1,s109];refine⟨aD,?_⟩;refine jH pcl lo (.inl rfl) fun cc jQ gc iL=>?_;have b3:=iL 4864000000 ae;have b6:=iL 4864064512 ae;simp only[go_sem] at b3 b6;simp only[go_sem,b3,b6,hG,n2,qt,c3,wG,eC];refine⟨aD,?_⟩;refine Iv (l:=pieces ls) aa ae mL gc fun bc wE aR=>?_;have b3':=(aR 4864000000 ae).trans b3;have KB:=(aR 4864064512 ae).trans b6;rcases wE with ⟨e,_⟩|⟨_,gg,e,hC⟩
   .exact absurd (by simpa [dT] using e) aK
   cases e;have kJ:(dT (pieces ls) ((G+1:Nat):Int) 0 1).length=ls.length:=by rw[cF,bh]
   obtain⟨x,hx⟩:=aI (ls:=dT (pieces ls) ((G+1:Nat):Int) 0 1) (k:=av) aa;have e0:tm (dT (pieces ls) ((G+1:Nat):Int) 0 1) av ((G+1:Nat):Int) 1=(dT (pieces ls) ((G+1:Nat):Int) 0 1).set av {x with l:={x.l with gate:=((G+1:Nat):Int),aA:=1}}:=by unfold tm;rw[cJ,hx];rfl
   rw[e0];generalize dT (pieces ls) ((G+1:Nat):Int) 0 1=m at hC kJ hx ⊢;have ko:=iO hx;have s1:=zQ m av {x with l:={x.l with gate:=((G+1:Nat):Int)}};have pO:(m.set av {x with l:={x.l with gate:=((G+1:Nat):Int)}})[av]?=some {x with l:={x.l with gate:=((G+1:Nat):Int)}}:=by rw[mT,if_pos rfl,if_pos aa]
   have MD:=iO pO;have s2:=zQ (m.set av {x with l:={x.l with gate:=((G+1:Nat):Int)}}) av {x with l:={x.l with gate:=((G+1:Nat):Int),aA:=1}};rw[List.set_set] at s2;simp only[Pc.ps] at s1 s2 MD;have l1:av<m.length:=aa;simp only[go_sem,b3',KB,hC,kJ,ha,ko,MD,Pc.ps,hG,s1,s2,wG];refine⟨aD,?_⟩;refine jB (.inr ⟨?_,gg,by rw[kA,cF,nX,kJ],rfl⟩);intro h2;have:=congrArg List.length h2;rw[kA,cF,nX,kJ,dQ] at this;omega
 have n2:¬((G:Int)<(F:Int)):=aa;have d2:decide (p.l.gate<(F:Int))=false:=decide_eq_false (by rw[hG];exact n2);simp only[go_sem,i76,ez,Pc.ps,n1,s109];refine⟨aD,?_⟩;refine jH pcl lo (.inl rfl) fun cc jQ gc iL=>?_;have b3:=iL 4864000000 ae;have b6:=iL 4864064512 ae;simp only[go_sem] at b3 b6;simp only[go_sem,b3,b6,hG,n2];exact⟨aD,rfl⟩
def C0(ls:List Let)(av:Nat):Option (List Pc):=
 if ((pA ls av).l.kind==1)&&(decide (0<(pA ls av).l.gate)&&((pA ls av).l.aA==1))
 then some (tm (dT (pieces ls) (pA ls av).l.gate 1 (-1)) av ((pA ls av).l.gate-1) ((cg ls ((pA ls av).l.gate-1).toNat+1:Nat):Int)) else none
theorem aqX(g:ct F ls){av:Nat}(ha:av<ls.length){b c:Int}{l o:Bool}{sg:Int}:
  aH S 76 [.one (.p (dj F ls)),gK 10 av b c l o sg] (kR (C0 ls av)):=by
 unfold C0;have hlen:=g.len;have bh:=eW ls;obtain⟨p,hp⟩:=aI (ls:=pieces ls) (k:=av) aa;have ez:=iO hp;have aK:pieces ls≠[]:=iR.1 aa;have pcl:=KO aK aa;have lo:S.lone 4864256256=false:=ah;have eC:S.shared 107=true:=ah;have mL:=Na g;rw[iW hp];refine ba c76 ?_;cases c1:(p.l.kind==1) with
 |false=>
  have n1:(p.l.kind !=1)=true:=by simp[bne,c1]
  simp only[go_sem,i76,ez,Pc.ps,n1];exact⟨aD,rfl⟩
 |true=>
 have n1:(p.l.kind !=1)=false:=by simp[bne,c1]
 obtain⟨i,l0,pI,nE⟩:=Vo (aQ hp);have zw:sP F ls p.l:=by rw[nE];exact g.ok.ax.eQ l0 (aQ pI) (by rw[nE] at c1;exact c1)
 obtain⟨G,hG⟩:=oL zw.g0;have zo:G<=F:=by have:=zw.g1;omega
 have D0:=g.fing;by_cases c2:0<G
 .have n2:((0:Int)<(G:Int)):=aa;obtain⟨H,rfl⟩:∃H,G=H+1:=⟨G-1,aa⟩;have d2:decide (0<p.l.gate)=true:=decide_eq_true (by rw[hG];exact n2);have wG:=G0 (a:=H+1) aa aa;rw[Hl] at wG;have qt:=iA (FI (ls:=ls) (show H<=F by omega));have B7:H<(counts ls F).length:=by simp[counts];omega
  have eo:cg ls H<=ls.length:=sM _ _;have wC:=bG (n:=cg ls H) aa;have eg1:p.l.gate-1=(H:Int):=by rw[hG];omega
  cases c3:(p.l.aA==1) with
  |false=>simp only[go_sem,i76,ez,Pc.ps,n1,hG,s109];refine⟨aD,?_⟩;refine jH pcl lo (.inl rfl) fun cc jQ gc iL=>?_;have b3:=iL 4864000000 ae;have b6:=iL 4864064512 ae;simp only[go_sem] at b3 b6;simp only[go_sem,b3,b6,n2,c3];first|exact⟨aD,rfl⟩|rfl
  |true=>
   rw[d2,eg1,hG,lJ];simp only[go_sem,i76,ez,Pc.ps,n1,s109];refine⟨aD,?_⟩;refine jH pcl lo (.inl rfl) fun cc jQ gc iL=>?_;have b3:=iL 4864000000 ae;have b6:=iL 4864064512 ae;simp only[go_sem] at b3 b6;simp only[go_sem,b3,b6,hG,n2,c3,eC];refine⟨aD,?_⟩;refine Iv (l:=pieces ls) aa ae mL gc fun bc wE aR=>?_;have b3':=(aR 4864000000 ae).trans b3;have KB:=(aR 4864064512 ae).trans b6;rcases wE with ⟨e,_⟩|⟨_,gg,e,hC⟩
   .exact absurd (by simpa [dT] using e) aK
   cases e;have kJ:(dT (pieces ls) ((H+1:Nat):Int) 1 (-1)).length=ls.length:=by rw[cF,bh]
   obtain⟨x,hx⟩:=aI (ls:=dT (pieces ls) ((H+1:Nat):Int) 1 (-1)) (k:=av) aa;have e0:tm (dT (pieces ls) ((H+1:Nat):Int) 1 (-1)) av (H:Int) ((cg ls H+1:Nat):Int)=(dT (pieces ls) ((H+1:Nat):Int) 1 (-1)).set av {x with l:={x.l with gate:=(H:Int),aA:=((cg ls H+1:Nat):Int)}}:=by unfold tm;rw[cJ,hx];rfl
   rw[e0];generalize dT (pieces ls) ((H+1:Nat):Int) 1 (-1)=m at hC kJ hx ⊢;have ko:=iO hx;have s1:=zQ m av {x with l:={x.l with gate:=(H:Int)}};have pO:(m.set av {x with l:={x.l with gate:=(H:Int)}})[av]?=some {x with l:={x.l with gate:=(H:Int)}}:=by rw[mT,if_pos rfl,if_pos aa]
   have MD:=iO pO;have s2:=zQ (m.set av {x with l:={x.l with gate:=(H:Int)}}) av {x with l:={x.l with gate:=(H:Int),aA:=((cg ls H+1:Nat):Int)}};rw[List.set_set] at s2;simp only[Pc.ps] at s1 s2 MD;have l1:av<m.length:=aa;simp only[go_sem,b3',KB,hC,kJ,ha,ko,MD,Pc.ps,hG,s1,s2,wG,qt,wC];refine⟨aD,?_⟩;refine jB (.inr ⟨?_,gg,by rw[kA,cF,nX,kJ],rfl⟩);intro h2;have:=congrArg List.length h2;rw[kA,cF,nX,kJ,dQ] at this;omega
 have n2:¬((0:Int)<(G:Int)):=aa;have d2:decide (0<p.l.gate)=false:=decide_eq_false (by rw[hG];exact n2);simp only[go_sem,i76,ez,Pc.ps,n1,s109];refine⟨aD,?_⟩;refine jH pcl lo (.inl rfl) fun cc jQ gc iL=>?_;have b3:=iL 4864000000 ae;have b6:=iL 4864064512 ae;simp only[go_sem] at b3 b6;simp only[go_sem,b3,b6,hG,n2];first|exact⟨aD,rfl⟩|rfl
end
end Go.Abs
