/- A part. -/
import Derived.Test.YtfgognempokgkaaGreatDoorWn
set_option linter.all false
set_option maxRecDepth 100000
set_option maxHeartbeats 16000000
namespace Go.Abs
section
variable{ws:List Int}{F:Nat}{ls:List Let}
theorem ac5(a:Int):aE S 163 [vi a] (rb false):=by refine bd c163 ?_;have h:(a !=a)=false:=af;simp only[go_sem,i163,h]
theorem acB(a b:Int):aE S 141 [vi a,vi b] (rb (pG a b)):=by have pn:=ac5 a;refine bd c141 ?_;simp only[go_sem,i141,s163,bY pn,pG]
theorem JG(n:Nat)(h:n<=1000000):∃k:Int,aE S 121 [.one (.p (.int .u64 n))] (ri k):=by
 refine⟨((Lib.bitLen n:Nat):Int),⟨1,?_⟩⟩;have hp:S.prim 121 [.one (.p (.int .u64 (n:Int)))]=some (some (ri ((Lib.bitLen n:Nat):Int))):=by show some (Gv [.one (.p (.int .u64 (n:Int)))])=_;simp only[Gv];rw[if_pos ⟨aa,aa⟩];rfl
 rw[gu,hp]
theorem MR(o:List Int)(k:Nat)(v:Int):(iP o).set k [.int .i64 v]=iP (o.set k v):=by simp[List.map_set]
theorem sb(o:List Int):(iP o).length=o.length:=cq _
def zw(lt:Int->Int->Bool)(id g ty:Nat)(es:List Int)(blk:aw)(v:V)(ak:aw):Prop:=v=.tup []/\(∃ws:List Int,ak id=(g,some (.arr ty 1 (iP ws)))/\ws.Perm es/\tU lt ws 0 ws.length)/\Kept (· =id) blk ak
theorem abT{al:Al}{blk:aw}{id g ty:Nat}{es:List Int}(o:al.ok id=true)(hl:es.length<=1000000)(hC:blk id=(g,some (.arr ty 1 (iP es)))):
  ∃v ak,fT S 135 [.one (.hsl id g 1 0 es.length),vi 0,vi es.length] al blk v ak/\zw pG id g ty es blk v ak:=by
 refine lf c135 (fy rfl) ?_;have w0:IntKind.i64.wrap (0+1)=((0+1:Nat):Int):=ae;simp only[go_sem,i135];refine ck (fun k aj ak=>aj 0=.one (.hsl id g 1 0 es.length)/\aj 1=vi 0/\aj 2=vi es.length/\aj 6=vi ((k+1:Nat):Int)/\ ∃zs:List Int,ak id=(g,some (.arr ty 1 (iP zs)))/\zs.Perm es/\tU pG zs 0 (k+1)/\Kept (· =id) blk ak) 0 es.length (bc _) ?_ ?_
 .simp only[go_sem];exact⟨rfl,es,hC,.refl _,fun p q x y _ h1 h2=>aa,Kept.refl _ _⟩
 rintro k aj aW hk ⟨h0,h1,h2,h6,zs,hZ,hp,hs,bJ⟩
 have kT:=hp.length_eq;by_cases au:k+1<es.length
 .have aF:((k+1:Nat):Int)<(es.length:Int):=aa;obtain⟨x,hx⟩:=aL (ls:=zs) (k:=k+1) aa;simp only[go_sem,i135_l3,h2,h6,aF];refine ck (fun q aj ak=>aj 0=.one (.hsl id g 1 0 es.length)/\aj 1=vi 0/\aj 2=vi es.length/\aj 6=vi ((k+1:Nat):Int)/\aj 7=vi ((k+1-q:Nat):Int)/\ ∃ws:List Int,ak id=(g,some (.arr ty 1 (iP ws)))/\tS pG zs ws x 0 (k+1) (k+1-q)/\Kept (· =id) blk ak) 0 (k+1) (bc _) ?_ ?_
  .simp only[go_sem,h0,h1,h2,h6];exact⟨zs,hZ,tS.start (bc _) hx hs,bJ⟩
  rintro q bH aN hq ⟨k0,k1,k2,k6,k7,ws,hW,hI,Ar⟩
  have tB:ws.length=es.length:=hI.perm.length_eq.trans kT;have wk:IntKind.i64.wrap (((k+1:Nat):Int)+1)=((k+1+1:Nat):Int):=bj (n:=k+1) aa;by_cases hj0:k+1-q=0
  .have e7:¬((0:Int)<((k+1-q:Nat):Int)):=aa;simp only[go_sem,i135_l1,i135_r2,k0,k1,k2,k6,k7,e7,wk];refine⟨ay,aa,ws,hW,hI.perm.trans hp,hI.stop Oh (.inl hj0),Ar⟩
  obtain⟨j,hj⟩:∃j,k+1-q=j+1:=⟨k-q,aa⟩;have e7:((0:Int)<((j+1:Nat):Int)):=aa;obtain⟨y,hy⟩:=aL (ls:=ws) (k:=j) aa;rw[hj] at hI k7;have wj:IntKind.i64.wrap (((j+1:Nat):Int)-1)=(j:Int):=by rw[ru aa];omega
  have qk:=xl hI.at';have qP:=xl hy;have j1:j+1<es.length:=by have:=hI.le;omega
  have j2:j<es.length:=aa;have pl:=acB x y;cases ql:pG x y with
  |false=>rw[ql] at pl;simp only[go_sem,i135_l1,i135_r2,k0,k1,k2,k6,k7,e7,wk,wj,hW,qk,qP,j1,j2,o,s141,Hk pl];refine⟨ay,aa,ws,rfl,hI.perm.trans hp,hI.stop Oh (.inr ⟨y,aa,hy,ql⟩),Ar⟩
  |true=>rw[ql] at pl;have rV:=hI.step Oh (bc _) hy ql;have hjj:¬(j+1=j):=aa;have l1:j+1<ws.length:=aa;have l2:j<ws.length:=aa;simp only[go_sem,i135_l1,i135_r2,k0,k1,k2,k6,k7,e7,wj,hW,qk,qP,j1,j2,l1,hjj,o,s141,Hk pl,ml,sb];have FZ:k+1-(q+1)=j:=aa;refine⟨ay,ay,aa,by rw[FZ],(ws.set (j+1) y).set j x,by rw[MR,MR],by rw[FZ];exact rV,(Ar.ca rfl _).ca rfl _⟩
 have aF:¬(((k+1:Nat):Int)<(es.length:Int)):=aa;simp only[go_sem,i135_l3,h2,h6,aF];exact⟨rfl,⟨zs,hZ,hp,hs.mono (.inl aa)⟩,bJ⟩
theorem s0{Q:dF}{al:Al}{aj:Env}{blk:aw}{os:List aI}{d:Option Nat}{f id g ty z o n:Nat}{vs:List V}{es:List (List PV)}{P:V->aw->Prop}(hC:blk id=(g,some (.arr ty z es)))(mF:(vs.map (jG blk)).flatten=[])(hh:al=.all\/al.ok id=true/\(S.sites f).all al.fs.contains=true)
  (h:∀ki,ki.ok id=true->ki.fs=S.sites f->∃v ak,fT S f (.one (.hsl id g z o n)::vs) ki blk v ak/\P v ak)
  (hK:∀v ak,P v ak->RN S al os Q (put aj d v) ak):gP S al (.sc f (.one (.hsl id g z o n)::vs)) d os Q aj blk:=by
 have hr:((V.one (.hsl id g z o n)::vs).map (jG blk)).flatten=[id]:=by rw[dE,kb,mF,NQ hC];rfl
 refine rQ (P:=P) ?_ (h _ (vT (by rw[hr];simp)) rfl) hK;rcases hh with rfl|⟨h1,h2⟩
 .rfl
 refine holds_of ?_ h2;show al.fi ((V.one (.hsl id g z o n)::vs).map (jG blk)).flatten=true;rw[hr];simp[Al.fi,h1]
theorem adw{al:Al}{blk:aw}{id g ty:Nat}{es:List Int}(o:al.ok id=true)(f1:al.fs.contains 135=true)(hl:es.length<=12)(hC:blk id=(g,some (.arr ty 1 (iP es))))(lim:Int):
  ∃v ak,fT S 120 [.one (.hsl id g 1 0 es.length),vi 0,vi es.length,vi lim] al blk v ak/\zw pG id g ty es blk v ak:=by
 refine lf c120 (fy rfl) ?_;have w0:IntKind.i64.wrap ((es.length:Int)-0)=(es.length:Int):=by rw[Int.sub_zero];exact nE aa aa
 have jO:(es.length:Int)<=12:=aa;simp only[go_sem,i120];refine k8 ?_;simp only[go_sem,i120_l1,w0,jO,s135];refine s0 hC (by rfl) (.inr ⟨o,by rw[show S.sites 135=[135] by kernel_rfl];simp only[tQ,vN,f1,Bo]⟩) (P:=zw pG id g ty es blk) (fun ki h1 _=>abT h1 aa hC) fun v ak hP=>?_;obtain⟨rfl,h2⟩:=hP;simp only[go_sem];exact⟨rfl,h2⟩
theorem Oc{al:Al}{blk:aw}{id g ty:Nat}{es:List Int}(o:al.ok id=true)(f1:(S.sites 120).all al.fs.contains=true)(hl:es.length<=12)(hC:blk id=(g,some (.arr ty 1 (iP es)))):
  ∃v ak,fT S 93 [.one (.hsl id g 1 0 es.length)] al blk v ak/\zw pG id g ty es blk v ak:=by
 obtain⟨k,pb⟩:=JG es.length aa;have wu:IntKind.u64.wrap (es.length:Int)=(es.length:Int):=by
  have e:IntKind.u64.wrap (es.length:Int)=(es.length:Int)%18446744073709551616:=by unfold IntKind.wrap;rfl
  rw[e];omega
 refine lf c93 (fy rfl) ?_;have sbl:S.shared 121=false:=ah;simp only[go_sem,i93,wu,sbl,Mj pb,s120];refine s0 hC (by rfl) (.inr ⟨o,f1⟩) (P:=zw pG id g ty es blk) (fun ki h1 h2=>adw h1 (by rw[h2];kernel_rfl) hl hC k) fun v ak hP=>?_;obtain⟨rfl,h2⟩:=hP;simp only[go_sem];exact⟨rfl,h2⟩
def jx(ws:List Int):Nat->List Int
 |0=>[]
 |k+1=>match ws[k]? with
  |some x=>if 0<k/\ws[k-1]?=some x then jx ws k else jx ws k++[x]
  |none=>jx ws k
theorem PY(ws:List Int):∀k,(jx ws k).length<=k:=by
 intro k
 induction k with
 |zero=>exact bo _
 |succ k ih=>
  unfold jx;split
  .split
   .omega
   simp;omega
  omega
theorem Kd{k:Nat}{x:Int}(h:ws[k+1]?=some x)(hp:ws[k]?=some x):jx ws (k+2)=jx ws (k+1):=by
 conv=>lhs;unfold jx
 rw[h];simp[hp]
theorem Kb{k:Nat}{x y:Int}(h:ws[k+1]?=some x)(hp:ws[k]?=some y)(hn:¬x=y):jx ws (k+2)=jx ws (k+1)++[x]:=by
 conv=>lhs;unfold jx
 rw[h];have:¬y=x:=fun e=>hn e.symm;simp[hp,this]
theorem YT{x:Int}(h:ws[0]?=some x):jx ws 1=[x]:=by simp[jx,h]
def Is(ws:List Int)(k:Nat):Prop:=∀i x y,i+1<k->ws[i]?=some x->ws[i+1]?=some y-> ¬y=x
theorem Kc:∀k,k<=ws.length->Is ws k->jx ws k=ws.take k:=by
 intro k
 induction k with
 |zero=>intro _ _;rfl
 |succ k ih=>
  intro hk h;obtain⟨x,hx⟩:=aL (ls:=ws) (k:=k) aa;have e:=ih aa fun i x y h1=>h i x y aa;have ht:ws.take (k+1)=ws.take k++[x]:=by rw[lR,hx];rfl
  rcases k with _|k
  .rw[YT hx,ht];rfl
  obtain⟨y,hy⟩:=aL (ls:=ws) (k:=k) aa;rw[Kb hx hy (h k y x aa hy hx),e,ht]
structure ud (ws cs:List Int) (k q:Nat):Prop where
 len:cs.length=ws.length
 kl:k=(jx ws q).length
 pre:cs.take k=jx ws q
 out:∀p,q-1<=p->cs[p]?=ws[p]?
 kq:k<q
theorem ud.step{cs:List Int}{k q:Nat}{x y:Int}(h:ud ws cs k (q+1))(hx:ws[q+1]?=some x)(hy:ws[q]?=some y)(hn:¬x=y):ud ws (cs.set k x) (k+1) (q+2):=by
 obtain⟨h1,h2,h3,h4,h5⟩:=h;have hl:=PY ws (q+1);have hq:q+1<ws.length:=(bn.1 hx).1;refine⟨by simpa using h1,by rw[Kb hx hy hn,iW,<- h2];rfl,?_,fun p hp=>?_,aa⟩
 .rw[Kb hx hy hn,lR,ml];have:k<cs.length:=aa;rw[if_pos rfl,if_pos this,List.take_set_of_le (bo _),h3];rfl
 rw[ml,if_neg aa];exact h4 p aa
theorem ud.skip{cs:List Int}{k q:Nat}{x:Int}(h:ud ws cs k (q+1))(hx:ws[q+1]?=some x)(hy:ws[q]?=some x):ud ws cs k (q+2):=by obtain⟨h1,h2,h3,h4,h5⟩:=h;exact⟨h1,by rw[Kd hx hy];exact h2,by rw[Kd hx hy];exact h3,fun p hp=>h4 p aa,aa⟩
theorem ud.start{k:Nat}{x:Int}(hk:k+1<ws.length)(h:Is ws (k+1))(hx:ws[k+1]?=some x)(hy:ws[k]?=some x):ud ws ws (k+1) (k+2):=by have e:=Kc (k+1) aa h;have e2:jx ws (k+2)=ws.take (k+1):=(Kd hx hy).trans e;exact⟨rfl,by rw[e2];simp;omega,by rw[e2],fun _ _=>rfl,aa⟩
def JP(id g ty:Nat)(ws:List Int)(blk:aw)(v:V)(ak:aw):Prop:=v=.one (.hsl id g 1 0 (jx ws ws.length).length)/\(∃cs:List Int,ak id=(g,some (.arr ty 1 (iP cs)))/\cs.length=ws.length/\cs.take (jx ws ws.length).length=jx ws ws.length)/\Kept (· =id) blk ak
theorem abG{cs:List Int}{k:Nat}(hk:k<=cs.length):List.take k (iP cs)++List.replicate (cs.length-k) [PV.int .i64 0]++List.drop (k+(cs.length-k)) (iP cs)=iP (cs.take k++List.replicate (cs.length-k) 0):=by rw[List.drop_of_length_le (by simp;omega),qu];simp only[iP,uU,List.map_replicate,List.map_take]
theorem PI{al:Al}{blk:aw}{id g ty:Nat}(o:al.ok id=true)(hl:ws.length<=1000000)(hC:blk id=(g,some (.arr ty 1 (iP ws)))):
  ∃v ak,fT S 94 [.one (.hsl id g 1 0 ws.length)] al blk v ak/\JP id g ty ws blk v ak:=by
 refine lf c94 (fy rfl) ?_;by_cases h2:ws.length<2
 .have fU:((ws.length:Int)<2):=aa;have jq:Is ws ws.length:=fun i x y h=>aa;have e:=Kc ws.length (bo _) jq;rw[ke] at e;simp only[go_sem,i94,fU];exact⟨by rw[e],⟨ws,hC,rfl,by rw[e,ke]⟩,Kept.refl _ _⟩
 have fU:¬((ws.length:Int)<2):=aa;simp only[go_sem,i94,fU];refine ck (fun q aj ak=>aj 0=.one (.hsl id g 1 0 ws.length)/\aj 3=vi ((q+1:Nat):Int)/\Is ws (q+1)/\ak=blk) 0 ws.length (bc _) ?_ ?_
 .simp only[go_sem];exact⟨rfl,fun i x y h=>aa⟩
 rintro q aj aW hq ⟨h0,h3,jq,rfl⟩
 by_cases au:q+1<ws.length
 .have aF:(((q+1:Nat):Int)<(ws.length:Int)):=aa;obtain⟨x,hx⟩:=aL (ls:=ws) (k:=q+1) au;obtain⟨y,hy⟩:=aL (ls:=ws) (k:=q) aa;have qk:=xl hx;have qP:=xl hy;have wj:IntKind.i64.wrap (((q+1:Nat):Int)-1)=(q:Int):=by rw[ru aa];omega
  have wk:=bj (n:=q+1) aa;have q1:q<ws.length:=aa;have q2:q+1<=ws.length:=aa;by_cases e:x=y
  .subst e;simp only[go_sem,i94_l4,h0,h3,au,aF,qk,qP,wj,q1,q2,hC,o];refine⟨ay,?_⟩;refine ck (fun r aj ak=>aj 0=.one (.hsl id g 1 0 ws.length)/\aj 4=.one (.hsl id g 1 (q+1) (ws.length-(q+1)))/\aj 5=vi ((r+1:Nat):Int)/\ ∃(cs:List Int) (k:Nat),aj 3=vi (k:Nat)/\ak id=(g,some (.arr ty 1 (iP cs)))/\ud ws cs k (q+2+r)/\q+2+r<=ws.length/\Kept (· =id) aW ak) 0 ws.length (bc _) ?_ ?_
   .simp only[go_sem,h0];exact⟨rfl,ws,q+1,h3,hC,ud.start au jq hx hy,aa,Kept.refl _ _⟩
   rintro r bH aN hr ⟨k0,k4,k5,cs,k,k3,hB,hI,hqr,bJ⟩
   have ef:=hI.len;have dd:=hI.kl;have hkle:=PY ws (q+2+r);have hkq:=hI.kq;have hI':ud ws cs k (q+1+r+1):=by rw[show q+1+r+1=q+2+r by omega];exact hI
   by_cases yM:r+1<ws.length-(q+1)
   .have vj:(((r+1:Nat):Int)<((ws.length-(q+1):Nat):Int)):=aa;obtain⟨u,hu⟩:=aL (ls:=ws) (k:=q+1+(r+1)) aa;obtain⟨v,hv⟩:=aL (ls:=ws) (k:=q+1+r) aa;have cu:=xl ((hI.out (q+1+(r+1)) aa).trans hu);have cv:=xl ((hI.out (q+1+r) aa).trans hv);have wr:IntKind.i64.wrap (((r+1:Nat):Int)-1)=(r:Int):=by rw[ru aa];omega
    have DB:=bj (n:=r+1) aa;have wk2:=bj (n:=k) aa;have r1:r<ws.length-(q+1):=aa;have kk:k<ws.length:=aa;have kk2:k<cs.length:=aa;obtain⟨z,hz⟩:=aL kk2;have cz:=xl hz;by_cases e2:u=v
    .subst e2;have yV:(u !=u)=false:=af;have rV:=hI'.skip (by rw[show q+1+r+1=q+1+(r+1) by omega];exact hu) hv;simp only[go_sem,i94_l1,k0,k4,k5,k3,yM,vj,r1,hB,cu,cv,wr,DB,yV,o];refine⟨ay,aa,cs,k,rfl,rfl,by rw[show q+2+(r+1)=q+1+r+2 by omega];exact rV,aa,bJ⟩
    have yV:=(show(u !=v)=true by simp[e2]);simp only[go_sem,i94_l1,k0,k4,k5,k3,yM,vj,r1,hB,cu,cv,wr,DB,wk2,kk,cz,yV,o];have rV:=hI'.step (by rw[show q+1+r+1=q+1+(r+1) by omega];exact hu) hv e2;refine⟨ay,aa,cs.set k u,k+1,rfl,by rw[MR],by rw[show q+2+(r+1)=q+1+r+2 by omega];exact rV,aa,bJ.ca rfl _⟩
   have vj:¬(((r+1:Nat):Int)<((ws.length-(q+1):Nat):Int)):=aa;have kk3:k<=ws.length:=aa;have kk4:k+(ws.length-k)<=cs.length:=aa;have aR:¬(ws.length-k=0):=aa;have HO:q+2+r=ws.length:=aa;rw[HO] at hI;have kD:=abG (cs:=cs) (k:=k) aa;rw[ef] at kD;simp only[go_sem,i94_l1,i94_r2,k0,k4,k5,k3,vj,hB,o,kk3,kk4,aR,List.length_replicate,sb,kD];obtain⟨i1,i2,i3,i4,i5⟩:=hI;refine⟨by rw[<- i2],⟨_,rn,by simp;omega,?_⟩,bJ.ca rfl _⟩;rw[<- i2,List.take_left' (by simp;omega),i3]
  have e1:=(show(x==y)=false by simp[e]);simp only[go_sem,i94_l4,i94_r3,h0,h3,au,aF,qk,qP,wj,wk,q1,hC,o,e1];refine⟨ay,fun i u v h h4 h5=>?_⟩;by_cases e2:i=q
  .subst e2;rw[hy] at h4;rw[hx] at h5;cases h4;cases h5;exact e
  exact jq i u v aa h4 h5
 have aF:¬(((q+1:Nat):Int)<(ws.length:Int)):=aa;have e:=Kc ws.length (bo _) (fun i x y h=>jq i x y aa);rw[ke] at e;simp only[go_sem,i94_l4,i94_r5,h0,h3,aF];exact⟨by rw[e],⟨ws,hC,rfl,by rw[e,ke]⟩,Kept.refl _ _⟩



theorem xZ{S:Sys}{f:Nat}{fn:aU}{args:List V}{P:RV->Prop}(hp:S.prim f args=none)(hf:S.fns f=some fn)(hl:args.length<=fn.ntmps)
  (h:W S .all fn.body (oL .all fn.results fun v blk=>∃r,P r/\ji blk v=some r) (nr args) vx):∃r,P r/\aE S f args r:=by
 obtain⟨n,v,ak,h1,r,h3,h2⟩:=Jt h;refine⟨r,h3,n+1,?_⟩;rw[gu];simp only[hp,hf,hl,if_true];unfold zu;simp only[h1,h2]

def iD(ids:List Int)(k:Nat)(p:Pc):Pc:={p with l:={p.l with id:=p.l.id-((ids.take k).countP (fun i=>decide (i<p.l.id)):Nat)}}
def qS(ids:List Int)(p:Pc):Pc:=if p.l.kind==2 then iD ids ids.length p else p
abbrev B3(l:List Pc)(ids:List Int):List Pc:=(se l (ug ids)).map (qS ids)
abbrev pF(ids:List Int)(l:List Pc)(k:Nat):List Pc:=(l.take k).map (qS ids)++l.drop k
theorem TY{ids:List Int}{l:List Pc}{k:Nat}{p:Pc}(h:l[k]?=some p):(pF ids l k)[k]?=some p:=by have hk:=(bn.1 h).1;rw[pF,zG (by rw[cq,jt];omega),cq,jt,Bw aa,Nat.sub_self,DF];exact h
theorem acP(ids:List Int)(l:List Pc)(k:Nat):(pF ids l k).length=l.length:=by rw[pF,iW,cq,jt,Bs];omega
theorem acQ{ids:List Int}{l:List Pc}{k:Nat}{p:Pc}(h:l[k]?=some p):(pF ids l k).set k (qS ids p)=pF ids l (k+1):=by
 have hk:=(bn.1 h).1;have Ag:l.drop k=p::l.drop (k+1):=by obtain⟨hh,rfl⟩:=bn.1 h;exact List.drop_eq_getElem_cons hh
 have e1:((l.take k).map (qS ids)).length=k:=by rw[cq,jt];omega
 rw[pF,List.set_append_right _ _ aa,e1,Nat.sub_self,Ag,List.set_cons_zero,pF,lR,h];simp
theorem uM(o:List Pc)(k:Nat)(p:Pc):(aX o).set k p.ps=aX (o.set k p):=by simp[List.map_set]
theorem Qp(l:List Pc)(ids:List Int)(hl:l.length<=1000000)(hi:ids.length<=1000)(hb:∀p∈l,-1000000<=p.l.id/\p.l.id<=1000000):
  aE S 89 [.one (.p (.sl (aX l))),.one (.p (.sl (iP ids)))] (.one (bg fZ 7 (aX (B3 l ids)))):=by
 have pw:=ag9 l hl (f:=118) (x:=.box [.sl (iP ids)]) rfl s118 (ug ids) (fun k p _=>Zf ids aa k p);have lo:S.lone 5696064128=false:=ah;have vk:∀p∈se l (ug ids),-1000000<=p.l.id/\p.l.id<=1000000:=fun p hp=>hb p (M7 hp);have dd:(se l (ug ids)).length<=1000000:=mm (CK _ _ _) hl;refine bd c89 ?_;simp only[go_sem,i89,s81];refine jz pw lo (.inr (eu (eT _))) fun cc jv gc gC=>?_;have z3:=gC 5696000000 ae;simp only[go_sem] at z3;unfold B3;generalize se l (ug ids)=m at gc vk dd;rcases gc with ⟨e,e2⟩|⟨aR,gg,e2,hC⟩
 .cases e2;have:m=[]:=by simpa using e
  subst this;have hz:¬(((0:Nat):Int)<((0:Nat):Int)):=aa;simp only[go_sem];refine ck (fun k aj blk=>k=0/\aj 5=.one (.p .nils)/\aj 14=vi ((0:Nat):Int)/\aj 15=vi ((0:Nat):Int)) 0 0 (bo _) ?_ ?_
  .simp only[go_sem];exact rfl
  rintro k aj blk _ ⟨rfl,h5,jP,lZ⟩
  simp only[go_sem,i89_l3,i89_r4,h5,jP,lZ,hz];rfl
 cases e2;simp only[go_sem];refine ck (fun k aj blk=>aj 3=.one (.aZ 5696000000 1 0)/\blk 5696000000=(1,some (.var [.p (.sl (iP ids))]))/\aj 5=.one (.hsl 5696064128 gg 7 0 m.length)/\aj 13=.one (.hsl 5696064128 gg 7 0 m.length)/\aj 14=vi m.length/\aj 15=vi k/\blk 5696064128=(gg,some (.arr fZ 7 (aX (pF ids m k))))) 0 m.length (bc _) ?_ ?_
 .simp only[go_sem,z3,hC];refine⟨rfl,?_⟩;simp[pF]
 rintro k aj blk hk ⟨h3,bI,h5,qC,jP,lZ,bO⟩
 by_cases au:k<m.length
 .have aF:((k:Int)<(m.length:Int)):=aa;obtain⟨p,hp⟩:=aL au;have r9:=fM (TY (ids:=ids) hp);have w1:=bj (n:=k) aa;have hmk:=acP ids m k;have iT:=acQ (ids:=ids) hp;have Cu:k<(pF ids m k).length:=aa;cases c1:(p.l.kind==2) with
  |false=>
   have n1:(p.l.kind !=2)=true:=by simp[bne,c1]
   have yT:pF ids m (k+1)=pF ids m k:=by
    rw[<- iT];have e:qS ids p=p:=by unfold qS;rw[c1];rfl
    rw[e];obtain⟨hh,he⟩:=bn.1 (TY (ids:=ids) hp);rw[<- he,List.set_getElem_self]
   simp only[go_sem,i89_l3,i89_r2,h3,bI,h5,qC,jP,lZ,bO,au,aF,r9,Pc.ps,n1,w1,yT]
  |true=>
   have n1:(p.l.kind !=2)=false:=by simp[bne,c1]
   have hid:=vk p (ba hp);have o0:qS ids p=iD ids ids.length p:=by unfold qS;rw[c1];rfl
   rw[o0] at iT;generalize pF ids m k=q at r9 hmk iT Cu bO;have q0:q.set k (iD ids 0 p)=q:=by
    have:iD ids 0 p=p:=by unfold iD;simp
    rw[this];have h1:q[k]?=some p:=by
     have h2:(aX q)[k]?=some p.ps:=r9;rw[js] at h2;cases hq:q[k]? with
     |none=>rw[hq] at h2;cases h2
     |some x=>rw[hq] at h2;simp[Pc.ps] at h2;obtain⟨⟨a,b,c,d,e,f⟩,g⟩:=x;obtain⟨⟨a',b',c',d',e',f'⟩,g'⟩:=p;simp at h2;obtain⟨rfl,rfl,rfl,rfl,rfl,rfl,rfl⟩:=h2;rfl
    obtain⟨hh,he⟩:=bn.1 h1;rw[<- he,List.set_getElem_self]
   simp only[go_sem,i89_l3,h3,bI,qC,jP,lZ,bO,au,aF,r9,Pc.ps,n1];refine ck (fun j bH aN=>bH 3=.one (.aZ 5696000000 1 0)/\aN 5696000000=(1,some (.var [.p (.sl (iP ids))]))/\bH 5=.one (.hsl 5696064128 gg 7 0 m.length)/\bH 13=.one (.hsl 5696064128 gg 7 0 m.length)/\bH 14=vi m.length/\bH 15=vi k/\bH 6=vi k/\bH 24=.one (.p (.sl (iP ids)))/\bH 25=vi ids.length/\bH 26=vi j/\
    (∃g7,bH 7=.one (.aZ 5696256192 g7 0)/\aN 5696256192=(g7,some (.var (p.ps.map .p))))/\aN 5696064128=(gg,some (.arr fZ 7 (aX (q.set k (iD ids j p)))))) 0 ids.length (bc _) ?_ ?_
   .simp only[go_sem,h3,bI,h5,qC,jP,lZ,bO,q0];first|exact⟨rfl,_,⟨rfl,rfl⟩,rfl⟩|exact⟨rfl,⟨_,rfl,rfl⟩⟩|exact⟨_,rfl,rfl⟩|exact⟨⟨_,rfl,rfl⟩,rfl⟩|exact⟨rfl,⟨_,rfl,rfl⟩,rfl⟩|trace_state
   rintro j bH aN hj ⟨p3,cI,p5,p13,qX,p15,p6,p24,p25,p26,⟨g7,p7,c7⟩,cO⟩
   by_cases pz:j<ids.length
   .have w7:((j:Int)<(ids.length:Int)):=aa;obtain⟨d,hd⟩:=aL pz;have nY:=xl hd;have w2:=bj (n:=j) aa;have Af:(ids.take (j+1)).countP (fun i=>decide (i<p.l.id))=(ids.take j).countP (fun i=>decide (i<p.l.id))+if d<p.l.id then 1 else 0:=by
     rw[lR,hd,List.countP_append];simp[GV,List.countP_nil]
    have ef:(ids.take j).countP (fun i=>decide (i<p.l.id))<=j:=mm List.countP_le_length (by rw[jt];omega);have hqa:(aX (q.set k (iD ids j p)))[k]?=some (iD ids j p).ps:=fM (by rw[ml,if_pos rfl,if_pos aa]);have yS:k<(q.set k (iD ids j p)).length:=by rw[kY];omega
    by_cases hg:d<p.l.id
    .have e1:(iD ids j p).l.id-1=(iD ids (j+1) p).l.id:=by
      unfold iD;simp only;rw[Af,if_pos hg];omega
     have w3:IntKind.i64.wrap ((iD ids j p).l.id-1)=(iD ids (j+1) p).l.id:=by rw[<- e1];exact nE (by unfold iD;simp only;omega) (by unfold iD;simp only;omega)
     have cn:((iD ids (j+1) p).ps)=[.int .i64 (iD ids j p).l.kind,.int .i64 (iD ids j p).l.gate,.int .i64 (iD ids j p).l.aO,.int .i64 (iD ids (j+1) p).l.id,.int .i64 (iD ids j p).l.sign,.bool (iD ids j p).l.over,.bool (iD ids j p).d]:=rfl;have Te:(aX (q.set k (iD ids j p))).set k (iD ids (j+1) p).ps=aX (q.set k (iD ids (j+1) p)):=by rw[uM,List.set_set]
     rw[cn] at Te;generalize iD ids j p=x at*;simp only[go_sem,i89_l1,p3,cI,p5,p13,qX,p15,p6,p24,p25,p26,p7,c7,cO,au,pz,w7,nY,hg,hqa,Pc.ps,w2,w3,Te];exact⟨g7,rfl,rfl⟩
    have e1:iD ids (j+1) p=iD ids j p:=by unfold iD;rw[Af,if_neg hg];simp
    simp only[go_sem,i89_l1,p3,cI,p5,p13,qX,p15,p6,p24,p25,p26,p7,c7,cO,pz,w7,nY,hg,Pc.ps,w2,e1];exact⟨g7,rfl,rfl⟩
   have:j=ids.length:=aa;subst this;rw[iT] at cO;simp only[go_sem,i89_l1,i89_r2,p3,cI,p5,p13,qX,p15,p26,p25,cO,dT,w1,au]
 have:k=m.length:=aa;subst this;have e1:pF ids m m.length=m.map (qS ids):=by rw[pF,ke,List.drop_length,qu]
 rw[e1] at bO;simp only[go_sem,i89_l3,i89_r4,h5,jP,lZ,dT];have tA:m.map (qS ids)≠[]:=by simpa using aR
 exact tc (.inr ⟨by simpa using tA,gg,af,bO⟩)
theorem cS.ids(g:cS F ls):MS ls/\CW ls:=by have hc:=g.ok.cr;unfold km at hc;simp only[cA] at hc;exact DC.1 fun k hk=>im.1 hc.1.2 k (iN.2 hk)
theorem NB{p:Pc}(h:p∈pieces ls):∃(i:Nat) (l:Let),ls[i]?=some l/\p=⟨l,ko ls i⟩:=by
 obtain⟨i,hi⟩:=iV h;have kQ:i<ls.length:=by rw[<- eI];exact(bn.1 hi).1
 obtain⟨l,hl⟩:=aL kQ;rw[ss hl] at hi;cases hi;exact⟨i,l,hl,rfl⟩
theorem Tl(g:cS F ls):∀p∈pieces ls,-1000000<=p.l.id/\p.l.id<=1000000:=by
 intro p hp;obtain⟨i,l,hl,rfl⟩:=NB hp;have hm:=ba hl;rcases g.ok.kinds l hm with h|h
 .have:=(vz (f:=(F:Int)) h).1 (g.bad l hm);simp only[this.1.1.2];omega
 have h1:=g.ids.1 l hm h;have:=g.cr;simp only;omega
def CN(ls:List Let)(av:Nat):Option (List Pc):=
 let p:=(pieces ls).getD av ⟨iK,false⟩
 let q:=(pieces ls).getD ((av+1)%ls.length) ⟨iK,false⟩
 if (p.l.kind==2)&&((q.l.kind==2)&&(p.l.id==q.l.id)) then some (B3 (pieces ls) [p.l.id]) else none
theorem acN(g:cS F ls){av:Nat}(ha:av<ls.length){k b c:Int}{l o:Bool}{sg:Int}:
  aE S 57 [.one (.p (cE F ls)),fc k av b c l o sg] (kR (CN ls av)):=by
 have hlen:=g.len;have bq:=eI ls;have pe:=wB g ha;have hm:=eJ (av+1) (show 0<ls.length by omega);obtain⟨p,hp⟩:=aL (ls:=pieces ls) (k:=av) aa;obtain⟨q,hq⟩:=aL (ls:=pieces ls) (k:=(av+1)%ls.length) aa;have fP:=fM hp;have lE:=fM hq;have lo:S.lone 3648256896=false:=ah;unfold CN;simp only[cP,hp,hq,kL];refine bd c57 ?_;cases c1:(p.l.kind==2) with
 |false=>
  have n1:(p.l.kind !=2)=true:=by simp[bne,c1]
  simp only[go_sem,i57,s80,cN pe fE,fP,Pc.ps,n1];exact⟨ay,rfl⟩
 |true=>
 have n1:(p.l.kind !=2)=false:=by simp[bne,c1]
 cases c2:(q.l.kind==2) with
 |false=>
  have n2:(q.l.kind !=2)=true:=by simp[bne,c2]
  simp only[go_sem,i57,s80,cN pe fE,fP,lE,Pc.ps,n1,n2];exact⟨ay,rfl⟩
 |true=>
 have n2:(q.l.kind !=2)=false:=by simp[bne,c2]
 cases c3:(p.l.id==q.l.id) with
 |false=>
  have n3:(p.l.id !=q.l.id)=true:=by simp[bne,c3]
  simp only[go_sem,i57,s80,cN pe fE,fP,lE,Pc.ps,n1,n2,n3];exact⟨ay,rfl⟩
 |true=>
 have n3:(p.l.id !=q.l.id)=false:=by simp[bne,c3]
 have pd:=Qp (pieces ls) [p.l.id] aa af (Tl g);simp only[go_sem,i57,s80,cN pe fE,fP,lE,Pc.ps,n1,n2,n3,s89];refine⟨ay,?_⟩;refine gH pd lo (.inr (eu (eT _))) fun cc aW w gc hb hw=>?_;simp only[go_sem];refine⟨?_,gY gc⟩;rcases hw with rfl|rfl<;>kernel_rfl
abbrev pA(ls:List Let)(i:Nat):Pc:=(pieces ls).getD i ⟨iK,false⟩
theorem mK{i:Nat}{p:Pc}(h:(pieces ls)[i]?=some p):pA ls i=p:=by simp[pA,cP,h]
abbrev nx(ls:List Let)(e:Nat):Nat:=(e+1)%ls.length
def jw(ls:List Let)(e:Nat)(ov:Bool):Bool:=((pA ls e).l.kind==2)&&(((pA ls (nx ls e)).l.kind==2)&&(((pA ls e).l.over==ov)&&((pA ls (nx ls e)).l.over==ov)))
theorem BR(g:cS F ls){e:Nat}(he:e<ls.length)(ov:Bool):aE S 91 [.one (.p (cE F ls)),vi e,vb ov] (rb (jw ls e ov)):=by
 have hlen:=g.len;have bq:=eI ls;have pe:=wB g he;have hm:=eJ (e+1) (show 0<ls.length by omega);obtain⟨p,hp⟩:=aL (ls:=pieces ls) (k:=e) aa;obtain⟨q,hq⟩:=aL (ls:=pieces ls) (k:=(e+1)%ls.length) aa;have fP:=fM hp;have lE:=fM hq;unfold jw;rw[mK hp,mK hq];refine bd c91 ?_;cases c1:(p.l.kind==2) with
 |false=>simp only[go_sem,i91,s80,cN pe fE,fP,Pc.ps,c1]
 |true=>
 cases c2:(q.l.kind==2) with
 |false=>simp only[go_sem,i91,s80,cN pe fE,fP,lE,Pc.ps,c1,c2]
 |true=>
 cases c3:(p.l.over==ov) with
 |false=>simp only[go_sem,i91,s80,cN pe fE,fP,lE,Pc.ps,c1,c2,c3]
 |true=>
 cases c4:(q.l.over==ov) with
 |false=>simp only[go_sem,i91,s80,cN pe fE,fP,lE,Pc.ps,c1,c2,c3,c4]
 |true=>simp only[go_sem,i91,s80,cN pe fE,fP,lE,Pc.ps,c1,c2,c3,c4]
def mL(ls:List Let)(e:Nat):Nat×Nat×Bool:=if (pA ls e).l.kind==2 then (nx ls e,e,(pA ls (nx ls e)).l.kind==1) else (e,nx ls e,((pA ls e).l.kind==1)&&((pA ls (nx ls e)).l.kind==2))
abbrev Ve(a b c:PV):RV:=.tup [.one (.p a),.one (.p b),.one (.p c)]
theorem tD{blk:aw}{s:Nat}{a b c:PV}{l:Bool}:land blk [] s ((Ve a b c).fx l)=some (.tup [.one (.p a),.one (.p b),.one (.p c)],[]):=by cases l<;>rfl
theorem UM(g:cS F ls){e:Nat}(he:e<ls.length):aE S 87 [.one (.p (cE F ls)),vi e] (Ve (.int .i64 ((mL ls e).1:Nat)) (.int .i64 ((mL ls e).2.1:Nat)) (.bool (mL ls e).2.2)):=by
 have hlen:=g.len;have bq:=eI ls;have pe:=wB g he;have hm:=eJ (e+1) (show 0<ls.length by omega);obtain⟨p,hp⟩:=aL (ls:=pieces ls) (k:=e) aa;obtain⟨q,hq⟩:=aL (ls:=pieces ls) (k:=(e+1)%ls.length) aa;have fP:=fM hp;have lE:=fM hq;unfold mL;rw[mK hp,mK hq];refine bd c87 ?_;cases c1:(p.l.kind==2) with
 |true=>
  have e1:p.l.kind=2:=by simpa using c1
  rw[if_pos rfl];cases c2:(q.l.kind==1) with
  |true=>simp only[go_sem,i87,s80,cN pe fE,fP,lE,Pc.ps,c1,c2];exact⟨ay,rfl⟩
  |false=>simp only[go_sem,i87,s80,cN pe fE,fP,lE,Pc.ps,c1,c2];exact⟨ay,rfl⟩
 |false=>
  rw[if_neg ae];cases c2:(p.l.kind==1) with
  |true=>
   cases c3:(q.l.kind==2) with
   |true=>simp only[go_sem,i87,s80,cN pe fE,fP,lE,Pc.ps,c1,c2,c3];exact⟨ay,rfl⟩
   |false=>simp only[go_sem,i87,s80,cN pe fE,fP,lE,Pc.ps,c1,c2,c3];exact⟨ay,rfl⟩
  |false=>simp only[go_sem,i87,s80,cN pe fE,fP,Pc.ps,c1,c2];exact⟨ay,rfl⟩
def vC(o:List Nat)(pr:Nat->Bool)(i:Nat):Bool:=match o[i]? with|some v=>pr v|none=>false
theorem abN(o:List Nat)(hl:o.length<=1000000){f:Nat}{x y z:PV}(hn:x.norm=x/\y.norm=y/\z.norm=z)(dY:S.shared f=false)(pr:Nat->Bool)(hd:∀v∈o,aE S f [vi (v:Nat),.one (.p x),.one (.p y),.one (.p z)] (rb (pr v))):
  aE S 133 [.one (.p (.sl (nP o))),.one (.p (.fn f [] [x,y,z]))] (ri (match (List.range o.length).find? (vC o pr) with|some k=>(k:Int)|none=> -1)):=by
 obtain⟨eX,fV,tA⟩:=hn;refine bd c133 ?_;simp only[go_sem,i133];refine ck (fun k aj blk=>aj 0=.one (.p (.sl (nP o)))/\aj 1=.one (.p (.fn f [] [x,y,z]))/\aj 7=vi o.length/\aj 8=vi k/\ ∀j,j<k->vC o pr j=false) 0 o.length (bc _) ?_ ?_
 .simp only[go_sem];exact⟨rfl,fun j hj=>absurd hj (rC j)⟩
 rintro k aj blk hk ⟨h0,h1,h7,h8,Cw⟩
 by_cases au:k<o.length
 .have aF:((k:Int)<(o.length:Int)):=aa;obtain⟨v,hv⟩:=aL au;have eF:=fv hv;have w1:=bj (n:=k) aa;have pd:=hd v (ba hv);have mC:vC o pr k=pr v:=by simp[vC,hv]
  cases hb:pr v with
  |true=>rw[hb] at pd mC;have hf:=ym (p:=vC o pr) au Cw mC;simp only[go_sem,i133_l1,h0,h1,h7,h8,aF,eF,dY,eX,fV,tA,bY pd,hf]
  |false=>
   rw[hb] at pd mC;simp only[go_sem,i133_l1,h0,h1,h7,h8,au,aF,eF,dY,eX,fV,tA,bY pd,w1];intro j hj;rcases kK.1 hj with h|rfl
   .exact Cw j h
   exact mC
 have:k=o.length:=aa;subst this;have hf:=EG (p:=vC o pr) Cw;simp only[go_sem,i133_l1,i133_r2,h7,h8,dT,hf]
theorem YK(o:List Nat)(hl:o.length<=1000000){f:Nat}{x y z:PV}(hn:x.norm=x/\y.norm=y/\z.norm=z)(dY:S.shared f=false)(pr:Nat->Bool)(hd:∀v∈o,aE S f [vi (v:Nat),.one (.p x),.one (.p y),.one (.p z)] (rb (pr v))):
  aE S 116 [.one (.p (.sl (nP o))),.one (.p (.fn f [] [x,y,z]))] (rb (o.any pr)):=by
 have pi:=abN o hl hn dY pr hd;obtain⟨eX,fV,tA⟩:=hn;refine bd c116 ?_;cases ha:o.any pr with
 |true=>
  obtain⟨v,hv,hp⟩:=List.any_eq_true.1 ha;obtain⟨k,hk⟩:=iV hv;have dd:=(bn.1 hk).1;cases hf:(List.range o.length).find? (vC o pr) with
  |none=>have:=DE.1 hf k (iN.2 dd);simp[vC,hk,hp] at this
  |some j=>rw[hf] at pi;have n0:(0:Int)<=(j:Int):=aa;simp only[go_sem,i116,s133,dR pi,n0]
 |false=>
  cases hf:(List.range o.length).find? (vC o pr) with
  |some j=>
   have h1:=List.find?_some hf;unfold vC at h1;cases ho:o[j]? with
   |none=>rw[ho] at h1;cases h1
   |some v=>rw[ho] at h1;have:=zD.1 ha v (ba ho);exact absurd h1 this
  |none=>rw[hf] at pi;have n0:¬(0:Int)<= -1:=ae;simp only[go_sem,i116,s133,dR pi,n0]
def uf(f:Fc)(e:Nat):Nat:=f.bX.countP fun d=>d/2==e
def yj(f:Fc)(pl:Nat)(edges:List Nat):Bool:=(f.bX.length==edges.length)&&((f.places.length==pl)&&edges.all fun e=>uf f e==1)
theorem PM(g:cS F ls){j:Nat}{f:Fc}(hf:(cX F ls)[j]?=some f)(edges:List Nat)(he:edges.length<=1000)(pl:Nat):
  aE S 117 [vi j,.one (.p (.box [cE F ls])),.one (.p (.box [.sl (nP edges)])),.one (.p (.box [.int .i64 pl]))] (rb (yj f pl edges)):=by
 have hlen:=g.len;have gI:(aD ls).length<=ls.length:=pQ ls ls.length;have Cl:=L7 g.ok (ba hf);have jq:nD ls<=1600:=by unfold nD;omega
 have rZ:=EF hf;have pj:=(bn.1 hf).1;refine bd c117 ?_;unfold yj;cases c1:(f.bX.length==edges.length) with
 |false=>
  have n1:(((f.bX.length:Nat):Int)!=((edges.length:Nat):Int))=true:=by
   have:¬f.bX.length=edges.length:=by simpa using c1
   simp[bne];omega
  simp only[go_sem,i117,rZ,Fc.ps,n1]
 |true=>
 have n1:(((f.bX.length:Nat):Int)!=((edges.length:Nat):Int))=false:=by
  have:f.bX.length=edges.length:=by simpa using c1
  simp[bne,this]
 cases c2:(f.places.length==pl) with
 |false=>
  have n2:(((f.places.length:Nat):Int)!=((pl:Nat):Int))=true:=by
   have:¬f.places.length=pl:=by simpa using c2
   simp[bne];omega
  simp only[go_sem,i117,rZ,Fc.ps,n1,n2]
 |true=>
 have n2:(((f.places.length:Nat):Int)!=((pl:Nat):Int))=false:=by
  have:f.places.length=pl:=by simpa using c2
  simp[bne,this]
 simp only[go_sem,i117,rZ,Fc.ps,n1,n2];refine ck (fun k aj blk=>aj 6=.one (.aZ 7488064448 1 0)/\blk 7488064448=(1,some (.var (f.ps.map .p)))/\aj 32=.one (.p (.sl (nP edges)))/\aj 33=vi edges.length/\aj 34=vi k/\ ∀i e,i<k->edges[i]?=some e->(uf f e==1)=true) 0 edges.length (bc _) ?_ ?_
 .simp only[go_sem,Fc.ps];first|exact⟨rfl,fun i e hi=>absurd hi (rC i)⟩|exact⟨rfl,rfl,fun i e hi=>absurd hi (rC i)⟩|exact fun i e hi=>absurd hi (rC i)
 rintro k aj blk hk ⟨h6,b6,h32,E0,h34,aq⟩
 simp only[Fc.ps,dE,jj] at b6;by_cases au:k<edges.length
 .have aF:((k:Int)<(edges.length:Int)):=aa;obtain⟨e,hek⟩:=aL au;have Fy:=fv hek;have w1:=bj (n:=k) aa;simp only[go_sem,i117_l4,h6,b6,h32,E0,h34,aF,Fy];refine ck (fun i bH aN=>bH 6=.one (.aZ 7488064448 1 0)/\aN 7488064448=(1,some (.var (f.ps.map .p)))/\bH 32=.one (.p (.sl (nP edges)))/\bH 33=vi edges.length/\bH 34=vi k/\bH 8=vi e/\bH 9=vi ((f.bX.take i).countP fun d=>d/2==e:Nat)/\bH 39=.one (.p (.sl (nP f.bX)))/\bH 40=vi f.bX.length/\bH 41=vi i) 0 f.bX.length (bc _) ?_ ?_
  .simp only[go_sem,h6,b6,h32,E0,h34,Fc.ps];first|exact⟨rfl,rfl⟩|exact rfl|exact⟨rfl,rfl,rfl⟩
  rintro i bH aN hi ⟨p6,d6,p32,p33,zi,p8,p9,p39,CV,p41⟩
  by_cases wZ:i<f.bX.length
  .have S7:((i:Int)<(f.bX.length:Int)):=aa;obtain⟨d,hd⟩:=aL wZ;have nY:=fv hd;have w2:=bj (n:=i) aa;have wq:=wrap_small (n:=d/2) (by have:=L6 (ba hf) d (ba hd);omega);have ef:(f.bX.take i).countP (fun d=>d/2==e)<=i:=mm List.countP_le_length (by rw[jt];omega);have w3:=bj (n:=(f.bX.take i).countP fun d=>d/2==e) aa;have Af:(f.bX.take (i+1)).countP (fun d=>d/2==e)=(f.bX.take i).countP (fun d=>d/2==e)+if (d/2==e)=true then 1 else 0:=by
    rw[lR,hd,List.countP_append];simp[GV,List.countP_nil]
   cases qG:(d/2==e) with
   |true=>
    have n3:(((d/2:Nat):Int)==(e:Int))=true:=by
     have:d/2=e:=by simpa using qG
     simp;omega
    rw[qG,if_pos rfl] at Af;simp only[go_sem,i117_l1,p6,p32,p33,zi,p8,p9,p39,CV,p41,wZ,S7,nY,dw,eo,wq,n3,w2,w3,Af];first|exact d6|exact⟨d6,rfl⟩
   |false=>
    have n3:(((d/2:Nat):Int)==(e:Int))=false:=by
     have:¬d/2=e:=by simpa using qG
     simp;omega
    rw[qG,if_neg ae,vP] at Af;simp only[go_sem,i117_l1,p6,p32,p33,zi,p8,p9,p39,CV,p41,wZ,S7,nY,dw,eo,wq,n3,w2,Af];first|exact d6|exact⟨d6,rfl⟩
  have:i=f.bX.length:=aa;subst this;rw[ke] at p9;have hdc:(f.bX.countP fun d=>d/2==e)=uf f e:=rfl;rw[hdc] at p9;cases hq:(uf f e==1) with
  |true=>
   have n4:(((uf f e:Nat):Int)!=1)=false:=by
    have:uf f e=1:=by simpa using hq
    simp[bne,this]
   simp only[go_sem,i117_l1,i117_r2,i117_r3,p6,p32,p33,zi,p9,CV,p41,dT,n4,w1,au];refine⟨d6,fun i2 e2 hi2 Ai=>?_⟩;rcases kK.1 hi2 with h|rfl
   .exact aq i2 e2 h Ai
   rw[hek] at Ai;cases Ai;exact hq
  |false=>
   have n4:(((uf f e:Nat):Int)!=1)=true:=by
    have:¬uf f e=1:=by simpa using hq
    simp[bne];omega
   have dI:(edges.all fun e=>uf f e==1)=false:=List.all_eq_false.2 ⟨e,ba hek,by rw[hq];decide⟩;simp only[go_sem,i117_l1,i117_r2,p9,CV,p41,dT,n4,dI]
 have:k=edges.length:=aa;subst this;have dI:(edges.all fun e=>uf f e==1)=true:=im.2 fun e he=>by obtain⟨i,hi⟩:=iV he;exact aq i e (bn.1 hi).1 hi
 simp only[go_sem,i117_l4,i117_r5,E0,h34,dT,dI]
def pS(F:Nat)(ls:List Let)(pl:Nat)(edges:List Nat)(e0:Nat):Bool:=yj (jW F ls (2*e0)) pl edges||yj (jW F ls (2*e0+1)) pl edges
theorem JX(g:cS F ls)(edges:List Nat)(cJ:edges.length<=1000){e0:Nat}(h0:edges[0]?=some e0)(he0:e0<ls.length)(pl:Nat):
  aE S 88 [.one (.p (cE F ls)),vi pl,.one (.p (.sl (nP edges)))] (rb (pS F ls pl edges e0)):=by
 have hlen:=g.len;obtain⟨j0,a1,a2,a3⟩:=EE g (d:=2*e0) aa;obtain⟨j1,b1,b2,b3⟩:=EE g (d:=2*e0+1) aa;have g0:(cX F ls).getD j0 Gm=jW F ls (2*e0):=by rw[cP,a2];rfl
 have g1:(cX F ls).getD j1 Gm=jW F ls (2*e0+1):=by rw[cP,b2];rfl
 have pc:=YK [j0,j1] af (f:=117) (x:=.box [cE F ls]) (y:=.box [.sl (nP edges)]) (z:=.box [.int .i64 pl]) ⟨rfl,rfl,rfl⟩ s117 (fun j=>yj ((cX F ls).getD j Gm) pl edges) (fun v hv=>by
  simp only[dU,vO,or_false] at hv;rcases hv with rfl|rfl
  .rw[g0];exact PM g a2 edges cJ pl
  rw[g1];exact PM g b2 edges cJ pl)
 have aaz:([j0,j1].any fun j=>yj ((cX F ls).getD j Gm) pl edges)=pS F ls pl edges e0:=by simp only[List.any_cons,List.any_nil,Bool.or_false,g0,g1];rfl
 rw[aaz] at pc;simp only[dE,jj] at pc;have ja:=fv a1;have jb:=fv b1;have he:=fv h0;have m2:=mj (a:=e0) aa;have m3:=bj (n:=2*e0) aa;have As:=A1 F ls;have l1:2*e0<(fQ F ls).length:=aa;have l2:2*e0+1<(fQ F ls).length:=aa;have gM:0<edges.length:=(bn.1 h0).1;have hpos':(0:Int)<(edges.length:Int):=aa;refine bd c88 ?_;simp only[go_sem,i88,he,m2,m3,ja,jb,s116,kn pc];exact ay
def sC(ls:List Let)(l:List Pc)(e:Nat):List Pc:=(l.set e (l.getD (nx ls e) ⟨iK,false⟩)).set (nx ls e) (l.getD e ⟨iK,false⟩)
theorem V5(ls:List Let)(l:List Pc)(e:Nat):(sC ls l e).length=l.length:=by simp[sC]
def lK(ls:List Let)(l:List Pc)(es:List Nat):List Pc:=es.foldl (sC ls) l
theorem Du(ls:List Let):∀(es:List Nat) (l:List Pc),(lK ls l es).length=l.length:=by
 intro es
 induction es with
 |nil=>intro l;rfl
 |cons e es ih=>intro l;show(lK ls (sC ls l e) es).length=_;rw[ih,V5]
theorem agr(g:cS F ls)(es:List Nat)(ig:∀e∈es,e<ls.length)(cJ:es.length<=1000):
  aE S 95 [.one (.p (cE F ls)),.one (.p (.sl (nP es)))] (.one (bg fZ 7 (aX (lK ls (pieces ls) es)))):=by
 have hlen:=g.len;have bq:=eI ls;have aR:pieces ls≠[]:=nH.1 (by have:=nH.2 g.ne;omega);have pcl:=Ej aR aa;have lo:S.lone 6080064256=false:=ah;refine bd c95 ?_;simp only[go_sem,i95,s85];refine jz pcl lo (.inl rfl) fun cc jv gc gC=>?_;rcases gc with ⟨e,_⟩|⟨_,gg,e,hC⟩
 .exact absurd (by simpa using e) aR
 cases e;rw[cq,bq];simp only[go_sem];refine ck (fun k aj blk=>aj 0=.one (.p (cE F ls))/\aj 5=.one (.hsl 6080064256 gg 7 0 ls.length)/\aj 15=.one (.p (.sl (nP es)))/\aj 16=vi es.length/\aj 17=vi k/\blk 6080064256=(gg,some (.arr fZ 7 (aX (lK ls (pieces ls) (es.take k)))))) 0 es.length (bc _) ?_ ?_
 .simp only[go_sem,hC];first|exact⟨rfl,rfl⟩|rfl|exact⟨rfl,rfl,rfl⟩
 rintro k aj blk hk ⟨h0,h5,lZ,uk,qD,bO⟩
 by_cases au:k<es.length
 .have aF:((k:Int)<(es.length:Int)):=aa;obtain⟨e,he⟩:=aL au;have Fy:=fv he;have Fw:=ig e (ba he);have pe:=wB g Fw;have w1:=bj (n:=k) aa;have mE:lK ls (pieces ls) (es.take (k+1))=sC ls (lK ls (pieces ls) (es.take k)) e:=by
   unfold lK;rw[lR,he,List.foldl_append];rfl
  have jZ:(lK ls (pieces ls) (es.take k)).length=ls.length:=by rw[Du,bq]
  have hm:=eJ (e+1) (show 0<ls.length by omega);generalize lK ls (pieces ls) (es.take k)=m at bO mE jZ;obtain⟨p,hp⟩:=aL (ls:=m) (k:=e) aa;obtain⟨q,hq⟩:=aL (ls:=m) (k:=(e+1)%ls.length) aa;have eF:=fM hp;have AP:=fM hq;have l1:e<m.length:=aa;have l2:(e+1)%ls.length<m.length:=aa;have s1:=uM m e q;have o0:(m.set e q).set ((e+1)%ls.length) p=sC ls m e:=by unfold sC nx;rw[cP,hq,cP,hp];rfl
  have s2:=uM (m.set e q) ((e+1)%ls.length) p;rw[o0,<- mE] at s2;simp only[Pc.ps] at s1 s2;obtain⟨p',iz⟩:=aL (ls:=m.set e q) (k:=e) (by rw[kY];omega);obtain⟨q',AO⟩:=aL (ls:=m.set e q) (k:=(e+1)%ls.length) (by rw[kY];omega);have MJ:=fM AO;simp only[go_sem,i95_l1,h0,h5,lZ,uk,qD,bO,au,aF,Fy,s80,cN pe fE,Fw,hm,eF,AP,MJ,s1,s2,Pc.ps,w1];exact ay
 have:k=es.length:=aa;subst this;rw[ke] at bO;simp only[go_sem,i95_l1,i95_r2,h5,uk,qD,dT];have h1:(lK ls (pieces ls) es).length=ls.length:=by rw[Du,bq]
 refine tc (.inr ⟨?_,gg,by rw[cq,h1],bO⟩);intro h2;have:=congrArg List.length h2;rw[cq,h1,fj] at this;have h3:=nH.2 g.ne;omega
def mO(l:List Pc)(i:Nat)(r:Int):List Pc:=l.set i {(l.getD i ⟨iK,false⟩) with l:={(l.getD i ⟨iK,false⟩).l with aO:=r}}
theorem GD(l:List Pc)(i:Nat)(r:Int):(mO l i r).length=l.length:=by simp[mO]
def BM(F:Nat)(ls:List Let)(av bv:Nat):Option (List Pc):=
 if (mL ls av).2.2&&((mL ls bv).2.2&&(!((mL ls av).2.1==(mL ls bv).2.1)&&(((pA ls (mL ls av).2.1).l.id==(pA ls (mL ls bv).2.1).l.id)&&pS F ls 1 [av,bv] av)))
 then some (lK ls (mO (mO (pieces ls) (mL ls av).1 (pA ls (mL ls bv).1).l.aO) (mL ls bv).1 (pA ls (mL ls av).1).l.aO) [av,bv]) else none
theorem U4{e:Nat}(he:e<ls.length):(mL ls e).1<ls.length/\(mL ls e).2.1<ls.length:=by
 have hm:=eJ (e+1) (show 0<ls.length by omega);unfold mL nx;split
 .exact⟨hm,he⟩
 exact⟨he,hm⟩
theorem XR(g:cS F ls){av bv:Nat}(ha:av<ls.length)(hb:bv<ls.length){k c:Int}{l o:Bool}{sg:Int}:
  aE S 56 [.one (.p (cE F ls)),fc k av bv c l o sg] (kR (BM F ls av bv)):=by
 have hlen:=g.len;have bq:=eI ls;have pa:=UM g ha;have pb:=UM g hb;have pc:=JX g [av,bv] af (e0:=av) rfl ha 1;obtain⟨p1,v1⟩:=U4 ha;obtain⟨q1,w1⟩:=U4 hb;unfold BM;generalize mL ls av=x at*;generalize mL ls bv=y at*;obtain⟨pi,Dz,one⟩:=x;obtain⟨qi,wi,two⟩:=y;simp only at pa pb p1 v1 q1 w1 ⊢;simp only[dE,jj] at pc;have c1:((1:Nat):Int)=1:=rfl;rw[c1] at pc;obtain⟨P,hP⟩:=aL (ls:=pieces ls) (k:=pi) aa;obtain⟨Q,hQ⟩:=aL (ls:=pieces ls) (k:=qi) aa;obtain⟨V,hV⟩:=aL (ls:=pieces ls) (k:=Dz) aa
 obtain⟨W,hW⟩:=aL (ls:=pieces ls) (k:=wi) aa;rw[mK hP,mK hQ,mK hV,mK hW];have hPp:=fM hP;have hQp:=fM hQ;have hVp:=fM hV;have hWp:=fM hW;have aR:pieces ls≠[]:=nH.1 aa;have pcl:=Ej aR aa;have lo:S.lone 3584384256=false:=ah;refine bd c56 ?_;cases one with
 |false=>simp only[go_sem,i56,s87,cN pa tD,cN pb tD];exact⟨ay,rfl⟩
 |true=>
 cases two with
 |false=>simp only[go_sem,i56,s87,cN pa tD,cN pb tD];exact⟨ay,rfl⟩
 |true=>
 cases c2:(Dz==wi) with
 |true=>
  have n2:((Dz:Int)==(wi:Int))=true:=by simp[show Dz=wi by simpa using c2]
  simp only[go_sem,i56,s87,cN pa tD,cN pb tD,n2];exact⟨ay,rfl⟩
 |false=>
 have n2:((Dz:Int)==(wi:Int))=false:=by
  have:¬Dz=wi:=by simpa using c2
  simp;omega
 cases c3:(V.l.id==W.l.id) with
 |false=>
  have n3:(V.l.id !=W.l.id)=true:=by simp[bne,c3]
  simp only[go_sem,i56,s87,cN pa tD,cN pb tD,n2,hVp,hWp,Pc.ps,n3];exact⟨ay,rfl⟩
 |true=>
 have n3:(V.l.id !=W.l.id)=false:=by simp[bne,c3]
 cases c4:pS F ls 1 [av,bv] av with
 |false=>rw[c4] at pc;simp only[go_sem,i56,s87,cN pa tD,cN pb tD,n2,hVp,hWp,Pc.ps,n3,s88,kn pc];exact⟨ay,rfl⟩
 |true=>
 rw[c4] at pc;simp only[go_sem,i56,s87,cN pa tD,cN pb tD,n2,hVp,hWp,hPp,hQp,Pc.ps,n3,s88,kn pc,s85];refine⟨ay,ay,?_⟩;refine jz pcl lo (.inl rfl) fun cc jv gc gC=>?_;have b3:=gC 3584000000 ae;simp only[go_sem] at b3;rcases gc with ⟨e,_⟩|⟨_,gg,e,hC⟩
 .exact absurd (by simpa using e) aR
 cases e;rw[cq,bq];have s1:=uM (pieces ls) pi {P with l:={P.l with aO:=Q.l.aO}};have jS:(pieces ls).set pi {P with l:={P.l with aO:=Q.l.aO}}=mO (pieces ls) pi Q.l.aO:=by unfold mO;rw[cP,hP];rfl
 rw[jS] at s1;have ft:(mO (pieces ls) pi Q.l.aO).length=ls.length:=by rw[GD,bq]
 obtain⟨Q',hQ'⟩:=aL (ls:=mO (pieces ls) pi Q.l.aO) (k:=qi) aa;have aax:=fM hQ';have s2:=uM (mO (pieces ls) pi Q.l.aO) qi {Q' with l:={Q'.l with aO:=P.l.aO}};have eP:(mO (pieces ls) pi Q.l.aO).set qi {Q' with l:={Q'.l with aO:=P.l.aO}}=mO (mO (pieces ls) pi Q.l.aO) qi P.l.aO:=by rw[mO.eq_def (mO (pieces ls) pi Q.l.aO),cP,hQ'];rfl
 rw[eP] at s2;simp only[Pc.ps] at s1 s2;have kB:(mO (mO (pieces ls) pi Q.l.aO) qi P.l.aO).length=ls.length:=by rw[GD,ft]
 simp only[go_sem,b3,hC,hPp,aax,Pc.ps,s1,s2,p1,q1];generalize mO (mO (pieces ls) pi Q.l.aO) qi P.l.aO=M at kB ⊢;obtain⟨es,HQ⟩:∃es,es=[av,bv]:=⟨_,rfl⟩;have HN:es.length=2:=by rw[HQ];rfl
 have ig:∀e∈es,e<ls.length:=fun e he=>by rw[HQ] at he;simp only[dU,vO,or_false] at he;rcases he with rfl|rfl<;>assumption
 refine ck (fun k aj blk=>aj 0=.one (.p (cE F ls))/\aj 14=.one (.hsl 3584384256 gg 7 0 ls.length)/\(∃ge,aj 116=.one (.hsl 3584512256 ge 1 0 2)/\blk 3584512256=(ge,some (.arr 3 1 (nP es))))/\aj 117=vi ((2:Nat):Int)/\aj 118=vi k/\blk 3584384256=(gg,some (.arr fZ 7 (aX (lK ls M (es.take k)))))) 0 2 (bc _) ?_ ?_
 .simp only[go_sem];exact⟨⟨_,rfl,by rw[HQ];rfl⟩,rfl,rfl⟩
 rintro k aj blk hk ⟨h0,jP,⟨ge,yt,bE⟩,SJ,SK,bO⟩
 by_cases au:k<2
 .have aF:((k:Int)<((2:Nat):Int)):=aa;have yM:k<es.length:=aa;obtain⟨e,he⟩:=aL yM;have Fy:=fv he;have Fw:=ig e (ba he);have pe:=wB g Fw;have w1:=bj (n:=k) aa;have mE:lK ls M (es.take (k+1))=sC ls (lK ls M (es.take k)) e:=by
   unfold lK;rw[lR,he,List.foldl_append];rfl
  have jZ:(lK ls M (es.take k)).length=ls.length:=by rw[Du,kB]
  have hm:=eJ (e+1) (show 0<ls.length by omega);generalize lK ls M (es.take k)=m at bO mE jZ;obtain⟨p,hp⟩:=aL (ls:=m) (k:=e) aa;obtain⟨q,hq⟩:=aL (ls:=m) (k:=(e+1)%ls.length) aa;have eF:=fM hp;have AP:=fM hq;have l1:e<m.length:=aa;have l2:(e+1)%ls.length<m.length:=aa;have s1:=uM m e q;have o0:(m.set e q).set ((e+1)%ls.length) p=sC ls m e:=by unfold sC nx;rw[cP,hq,cP,hp];rfl
  have s2:=uM (m.set e q) ((e+1)%ls.length) p;rw[o0,<- mE] at s2;simp only[Pc.ps] at s1 s2;obtain⟨q',AO⟩:=aL (ls:=m.set e q) (k:=(e+1)%ls.length) (by rw[kY];omega);have MJ:=fM AO;simp only[go_sem,i56_l1,h0,jP,yt,SJ,SK,bE,bO,au,aF,Fy,s80,cN pe fE,Fw,hm,eF,AP,MJ,s1,s2,Pc.ps,w1];first|exact⟨ay,ge,rfl,rfl⟩|exact⟨ay,⟨ge,rfl,rfl⟩⟩|exact⟨ay,⟨ge,rfl,rfl⟩,rfl⟩|trace_state
 have:k=2:=aa;subst this;have e1:es.take 2=[av,bv]:=by rw[HQ];rfl
 rw[e1] at bO;have n0:¬(((2:Nat):Int)<((2:Nat):Int)):=aa;simp only[go_sem,i56_l1,i56_r2,jP,SJ,SK,n0];have h1:(lK ls M [av,bv]).length=ls.length:=by rw[Du,kB]
 refine gY (.inr ⟨?_,gg,by rw[kL,cq,h1],bO⟩);intro h2;have:=congrArg List.length h2;rw[kL,cq,h1,fj] at this;omega
def xF(l:List Pc)(i:Nat)(g r:Int):List Pc:=l.set i {(l.getD i ⟨iK,false⟩) with l:={(l.getD i ⟨iK,false⟩).l with gate:=g,aO:=r}}
def Dx(F:Nat)(ls:List Let)(av:Nat):Option (List Pc):=
 if ((pA ls av).l.kind==1)&&(decide ((pA ls av).l.gate<(F:Int))&&((pA ls av).l.aO==(cg ls (pA ls av).l.gate.toNat:Int)))
 then some (xF (ed (pieces ls) ((pA ls av).l.gate+1) 0 1) av ((pA ls av).l.gate+1) 1) else none
theorem agB(g:cS F ls){av:Nat}(ha:av<ls.length){b c:Int}{l o:Bool}{sg:Int}:
  aE S 62 [.one (.p (cE F ls)),fc 9 av b c l o sg] (kR (Dx F ls av)):=by
 unfold Dx;have hlen:=g.len;have bq:=eI ls;obtain⟨p,hp⟩:=aL (ls:=pieces ls) (k:=av) aa;have eF:=fM hp;have aR:pieces ls≠[]:=nH.1 aa;have pcl:=Ej aR aa;have lo:S.lone 3968256256=false:=ah;have dY:S.shared 83=true:=ah;have kC:=Gw g;rw[mK hp];refine bd c62 ?_;cases c1:(p.l.kind==1) with
 |false=>
  have n1:(p.l.kind !=1)=true:=by simp[bne,c1]
  simp only[go_sem,i62,eF,Pc.ps,n1];exact⟨ay,rfl⟩
 |true=>
 have n1:(p.l.kind !=1)=false:=by simp[bne,c1]
 obtain⟨i,l0,mA,nk⟩:=NB (ba hp);have FC:nV F ls p.l:=by rw[nk];exact g.ok.ax.gA l0 (ba mA) (by rw[nk] at c1;exact c1)
 obtain⟨G,hG⟩:=nG FC.g0;have wO:G<=F:=by have:=FC.g1;omega
 have yD:=g.fing;have wG:=bj (n:=G) aa;have l6:=fv (zZ (ls:=ls) wO);have wP:G<(counts ls F).length:=by simp[counts];omega
 have eG:p.l.gate.toNat=G:=by rw[hG];rfl
 rw[eG];by_cases c2:G<F
 .have n2:((G:Int)<(F:Int)):=aa;have d2:decide (p.l.gate<(F:Int))=true:=decide_eq_true (by rw[hG];exact n2);cases c3:(p.l.aO==(cg ls G:Int)) with
  |false=>simp only[go_sem,i62,eF,Pc.ps,n1,hG,s85];refine⟨ay,?_⟩;refine jz pcl lo (.inl rfl) fun cc jv gc gC=>?_;have b3:=gC 3968000000 ae;have b6:=gC 3968064512 ae;simp only[go_sem] at b3 b6;simp only[go_sem,b3,b6,n2,l6,c3];exact⟨ay,rfl⟩
  |true=>
   have eg1:p.l.gate+1=((G+1:Nat):Int):=by rw[hG];omega
   rw[d2,eg1];simp only[go_sem,i62,eF,Pc.ps,n1,s85];refine⟨ay,?_⟩;refine jz pcl lo (.inl rfl) fun cc jv gc gC=>?_;have b3:=gC 3968000000 ae;have b6:=gC 3968064512 ae;simp only[go_sem] at b3 b6;simp only[go_sem,b3,b6,hG,n2,l6,c3,wG,dY];refine⟨ay,?_⟩;refine Cd (l:=pieces ls) aa ae kC gc fun aW ui aQ=>?_;have b3':=(aQ 3968000000 ae).trans b3;have DX:=(aQ 3968064512 ae).trans b6;rcases ui with ⟨e,_⟩|⟨_,gg,e,hC⟩
   .exact absurd (by simpa [ed] using e) aR
   cases e;have jZ:(ed (pieces ls) ((G+1:Nat):Int) 0 1).length=ls.length:=by rw[cq,bq]
   obtain⟨x,hx⟩:=aL (ls:=ed (pieces ls) ((G+1:Nat):Int) 0 1) (k:=av) aa;have e0:xF (ed (pieces ls) ((G+1:Nat):Int) 0 1) av ((G+1:Nat):Int) 1=(ed (pieces ls) ((G+1:Nat):Int) 0 1).set av {x with l:={x.l with gate:=((G+1:Nat):Int),aO:=1}}:=by unfold xF;rw[cP,hx];rfl
   rw[e0];generalize ed (pieces ls) ((G+1:Nat):Int) 0 1=m at hC jZ hx ⊢;have uE:=fM hx;have s1:=uM m av {x with l:={x.l with gate:=((G+1:Nat):Int)}};have lG:(m.set av {x with l:={x.l with gate:=((G+1:Nat):Int)}})[av]?=some {x with l:={x.l with gate:=((G+1:Nat):Int)}}:=by rw[ml,if_pos rfl,if_pos aa]
   have F9:=fM lG;have s2:=uM (m.set av {x with l:={x.l with gate:=((G+1:Nat):Int)}}) av {x with l:={x.l with gate:=((G+1:Nat):Int),aO:=1}};rw[List.set_set] at s2;simp only[Pc.ps] at s1 s2 F9;have l1:av<m.length:=aa;simp only[go_sem,b3',DX,hC,jZ,ha,uE,F9,Pc.ps,hG,s1,s2,wG];refine⟨ay,?_⟩;refine gY (.inr ⟨?_,gg,by rw[kL,cq,kY,jZ],rfl⟩);intro h2;have:=congrArg List.length h2;rw[kL,cq,kY,jZ,fj] at this;omega
 have n2:¬((G:Int)<(F:Int)):=aa;have d2:decide (p.l.gate<(F:Int))=false:=decide_eq_false (by rw[hG];exact n2);simp only[go_sem,i62,eF,Pc.ps,n1,s85];refine⟨ay,?_⟩;refine jz pcl lo (.inl rfl) fun cc jv gc gC=>?_;have b3:=gC 3968000000 ae;have b6:=gC 3968064512 ae;simp only[go_sem] at b3 b6;simp only[go_sem,b3,b6,hG,n2];exact⟨ay,rfl⟩
def Dv(ls:List Let)(av:Nat):Option (List Pc):=
 if ((pA ls av).l.kind==1)&&(decide (0<(pA ls av).l.gate)&&((pA ls av).l.aO==1))
 then some (xF (ed (pieces ls) (pA ls av).l.gate 1 (-1)) av ((pA ls av).l.gate-1) ((cg ls ((pA ls av).l.gate-1).toNat+1:Nat):Int)) else none
theorem agA(g:cS F ls){av:Nat}(ha:av<ls.length){b c:Int}{l o:Bool}{sg:Int}:
  aE S 62 [.one (.p (cE F ls)),fc 10 av b c l o sg] (kR (Dv ls av)):=by
 unfold Dv;have hlen:=g.len;have bq:=eI ls;obtain⟨p,hp⟩:=aL (ls:=pieces ls) (k:=av) aa;have eF:=fM hp;have aR:pieces ls≠[]:=nH.1 aa;have pcl:=Ej aR aa;have lo:S.lone 3968256256=false:=ah;have dY:S.shared 83=true:=ah;have kC:=Gw g;rw[mK hp];refine bd c62 ?_;cases c1:(p.l.kind==1) with
 |false=>
  have n1:(p.l.kind !=1)=true:=by simp[bne,c1]
  simp only[go_sem,i62,eF,Pc.ps,n1];exact⟨ay,rfl⟩
 |true=>
 have n1:(p.l.kind !=1)=false:=by simp[bne,c1]
 obtain⟨i,l0,mA,nk⟩:=NB (ba hp);have FC:nV F ls p.l:=by rw[nk];exact g.ok.ax.gA l0 (ba mA) (by rw[nk] at c1;exact c1)
 obtain⟨G,hG⟩:=nG FC.g0;have wO:G<=F:=by have:=FC.g1;omega
 have yD:=g.fing;by_cases c2:0<G
 .have n2:((0:Int)<(G:Int)):=aa;obtain⟨H,rfl⟩:∃H,G=H+1:=⟨G-1,aa⟩;have d2:decide (0<p.l.gate)=true:=decide_eq_true (by rw[hG];exact n2);have wG:=Bl (a:=H+1) aa aa;rw[Nat.add_sub_cancel] at wG;have l6:=fv (zZ (ls:=ls) (show H<=F by omega));have wP:H<(counts ls F).length:=by simp[counts];omega
  have ef:cg ls H<=ls.length:=oH _ _;have wC:=bj (n:=cg ls H) aa;have eg1:p.l.gate-1=(H:Int):=by rw[hG];omega
  cases c3:(p.l.aO==1) with
  |false=>simp only[go_sem,i62,eF,Pc.ps,n1,hG,s85];refine⟨ay,?_⟩;refine jz pcl lo (.inl rfl) fun cc jv gc gC=>?_;have b3:=gC 3968000000 ae;have b6:=gC 3968064512 ae;simp only[go_sem] at b3 b6;simp only[go_sem,b3,b6,n2,c3];first|exact⟨ay,rfl⟩|rfl
  |true=>
   rw[d2,eg1,hG,oE];simp only[go_sem,i62,eF,Pc.ps,n1,s85];refine⟨ay,?_⟩;refine jz pcl lo (.inl rfl) fun cc jv gc gC=>?_;have b3:=gC 3968000000 ae;have b6:=gC 3968064512 ae;simp only[go_sem] at b3 b6;simp only[go_sem,b3,b6,hG,n2,c3,dY];refine⟨ay,?_⟩;refine Cd (l:=pieces ls) aa ae kC gc fun aW ui aQ=>?_;have b3':=(aQ 3968000000 ae).trans b3;have DX:=(aQ 3968064512 ae).trans b6;rcases ui with ⟨e,_⟩|⟨_,gg,e,hC⟩
   .exact absurd (by simpa [ed] using e) aR
   cases e;have jZ:(ed (pieces ls) ((H+1:Nat):Int) 1 (-1)).length=ls.length:=by rw[cq,bq]
   obtain⟨x,hx⟩:=aL (ls:=ed (pieces ls) ((H+1:Nat):Int) 1 (-1)) (k:=av) aa;have e0:xF (ed (pieces ls) ((H+1:Nat):Int) 1 (-1)) av (H:Int) ((cg ls H+1:Nat):Int)=(ed (pieces ls) ((H+1:Nat):Int) 1 (-1)).set av {x with l:={x.l with gate:=(H:Int),aO:=((cg ls H+1:Nat):Int)}}:=by unfold xF;rw[cP,hx];rfl
   rw[e0];generalize ed (pieces ls) ((H+1:Nat):Int) 1 (-1)=m at hC jZ hx ⊢;have uE:=fM hx;have s1:=uM m av {x with l:={x.l with gate:=(H:Int)}};have lG:(m.set av {x with l:={x.l with gate:=(H:Int)}})[av]?=some {x with l:={x.l with gate:=(H:Int)}}:=by rw[ml,if_pos rfl,if_pos aa]
   have F9:=fM lG;have s2:=uM (m.set av {x with l:={x.l with gate:=(H:Int)}}) av {x with l:={x.l with gate:=(H:Int),aO:=((cg ls H+1:Nat):Int)}};rw[List.set_set] at s2;simp only[Pc.ps] at s1 s2 F9;have l1:av<m.length:=aa;simp only[go_sem,b3',DX,hC,jZ,ha,uE,F9,Pc.ps,hG,s1,s2,wG,l6,wC];refine⟨ay,?_⟩;refine gY (.inr ⟨?_,gg,by rw[kL,cq,kY,jZ],rfl⟩);intro h2;have:=congrArg List.length h2;rw[kL,cq,kY,jZ,fj] at this;omega
 have n2:¬((0:Int)<(G:Int)):=aa;have d2:decide (0<p.l.gate)=false:=decide_eq_false (by rw[hG];exact n2);simp only[go_sem,i62,eF,Pc.ps,n1,s85];refine⟨ay,?_⟩;refine jz pcl lo (.inl rfl) fun cc jv gc gC=>?_;have b3:=gC 3968000000 ae;have b6:=gC 3968064512 ae;simp only[go_sem] at b3 b6;simp only[go_sem,b3,b6,hG,n2];first|exact⟨ay,rfl⟩|rfl
end
end Go.Abs
