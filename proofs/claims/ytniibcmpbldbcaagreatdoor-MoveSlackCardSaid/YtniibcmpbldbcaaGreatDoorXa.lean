/-
  MoveSlack: for every code and every number the call returns true and the arguments read as they did. It holds for every input that the row speaks of; the tables that the row lists hold what the text lays.
-/
import Derived.Test.YtniibcmpbldbcaaGreatDoorOa
import Derived.Test.YtniibcmpbldbcaaGreatDoorUc
import Derived.Test.YtniibcmpbldbcaaGreatDoorTie
import Derived.Deep.DeepHandedRow
import Derived.Deep.DeepLaidRun
import Derived.Stop.LaidErr
import Derived.Test.YtniibcmpbldbcaaGreatDoorSb
import Derived.Test.YtniibcmpbldbcaaGreatDoorTa
import Derived.Test.YtniibcmpbldbcaaGreatDoorFa
import Derived.Test.YtniibcmpbldbcaaGreatDoorGa
set_option linter.all false
set_option maxRecDepth 100000
set_option maxHeartbeats 16000000
namespace Go.Abs
section
variable{L:List Pc}
theorem afp{F:Nat}{ls:List Let}(h:iD (F:Int) ls=0)(hF:F<=40)(hl:ls.length<=1000000):aH S 8 [fP F ls] (.one (.own rh 1 (iP (lk F (iZ ls))))):=by obtain⟨g1,g2⟩:=Li h;have pw:=Wt h hl;have pd:=arQ hF g1 g2;have pP:S.lone 512064064=false:=ah;have sB:S.lone 512128192=false:=ah;refine ba c8 ?_;simp only[go_sem,i8,s10];refine FU pw pP (CV _) rfl fun c bc gc hb=>?_;have b0:=hb 512000000 ae;simp only[go_sem] at b0;obtain⟨rd,se,pN⟩:=gc.dO;simp only[go_sem,b0,se,s20];refine ajG pd sB (CV _) rfl fun aT g2 aU Ly=>?_;simp only[go_sem];simp[kx,tL,oa,mN,lG,aU,apart,vE,ti];exact fY af
theorem apQ{k:Int}(h1:1<=k)(h2:k<=10):aH S 9 [vi k] (rb (decide (k<9))):=by
 have pk:aH S 21 [vi k] (rb true):=by have a1:k≥1:=h1;refine ba c21 ?_;simp only[go_sem,i21,a1,h2]
 refine ba c9 ?_;by_cases h:k<9
 .simp only[go_sem,i9,s21,cH pk,h]
 simp only[go_sem,i9,s21,cH pk,h]
def sE(a b:List Int):Nat->Int
 |0=>0
 |n+1=>sE a b n+(a.getD n 0-b.getD n 0)*(a.getD n 0-b.getD n 0)
theorem aey(a:List Int):∀n,sE a a n=0:=by
 intro n
 induction n with
 |zero=>rfl
 |succ n ih=>rw[sE,ih,Int.sub_self];rfl
theorem aez{d:Int}(h1: -800<=d)(h2:d<=800):0<=d*d/\d*d<=640000:=by
 constructor
 .rcases Int.le_total 0 d with h|h
  .exact Int.mul_nonneg h h
  exact Int.mul_nonneg_of_nonpos_of_nonpos h h
 rcases Int.le_total 0 d with h|h
 .exact Int.le_trans (Int.mul_le_mul h2 h2 h ae) ae
 have:=Int.mul_le_mul (show -d<=800 by omega) (show -d<=800 by omega) aa ae;rw[Int.neg_mul_neg] at this;exact Int.le_trans this ae
theorem aql{a b:List Int}(ha:∀x∈a,-400<=x/\x<=400)(hb:∀x∈b,-400<=x/\x<=400):∀n:Nat,0<=sE a b n/\sE a b n<=640000*(n:Int):=by
 have g:∀ {l:List Int},(∀x∈l,-400<=x/\x<=400)->∀n,-400<=l.getD n 0/\l.getD n 0<=400:=by
  intro l h n;rw[cJ];cases hn:l[n]? with
  |none=>exact⟨ae,ae⟩
  |some x=>exact h x (aQ hn)
 intro n
 induction n with
 |zero=>exact⟨Int.le_refl _,Int.le_refl _⟩
 |succ n ih=>have h1:=g ha n;have h2:=g hb n;have h3:=aez (d:=a.getD n 0-b.getD n 0) aa aa;rw[sE];omega
theorem Wu{z:Int}(h1: -1000000000<=z)(h2:z<=1000000000):IntKind.i64.wrap z=z:=by simp only[IntKind.wrap,IntKind.bits,IntKind.signed];simp;omega
section
variable {F:Nat} {ls M:List Let} {k a b c:Int} {l o:Bool} {sg:Int}
theorem aee(hk:aH S 5 [] (.one (.p (.bool true)))){f n:Int}(hsm:aH S 4 [fP f ls,vi 24] (rb false)):aH S 3 [fP f ls,vi n] (rb true):=by refine ba c3 ?_;simp only[go_sem,i3,s4,cH hsm,s5,cH hk]
theorem aed(hk:aH S 5 [] (.one (.p (.bool true)))){f n:Int}{m:dx}(hsm:aH S 4 [fP f ls,vi 24] (rb true))(pp:aH S 6 [fP f ls,vi n] (EY m false)):aH S 3 [fP f ls,vi n] (rb true):=by
 have lo0:S.lone 192192128=false:=ah;have lp:∀ {blk:aB},land blk [] 192192128 ((EY m false).gV (S.lone 192192128))=some (.tup [gK m.k m.a m.b m.c m.l m.o m.s,.one (.p (.bool false))],[]):=by intro blk;rw[lo0];rfl
 refine ba c3 ?_;simp only[go_sem,i3,s4,cH hsm,s6,dB pp lp,s5,cH hk]
theorem Yr{Q:ef}{aj:Env}{blk:aB}{os all:List ch}{tr:List bX}{d:Option Nat}{f:Nat}{vs:List V}{s ty z:Nat}{rd:List Nat}{es:List (List PV)}(hp:aH S f vs (.one (.own ty z es)))(fA:S.lone s=false)(hs:(es.all fun e=>e.all PV.scalar)=true)
  (hK:∀ak g,ak s=(g,some (.arr ty z es))->(∀i,i≠s->ak i=blk i)->RD S .all all os Q (put aj d (.one (.hsl s g z 0 es.length))) ak (tr++[⟨rd++[s],[s],[]⟩])):dP S .all (.pc f vs rd s) d all os Q aj blk tr:=by
 refine(gR (v:=.one (.hsl s ((blk s).1+1) z 0 es.length)) (u:=[(s,((blk s).1+1,some (.arr ty z es)))]) hp ?_).2 (hK _ _ rz fun i hi=>aN hi);rw[fA,zR];have iK:(RV.one (.own ty z es)).alone=true:=by simp only[RV.alone,jS,kD,uT,yH,Hc,RC.alone,hs]
 unfold land;rw[if_pos (.inr iK)];simp[kN,jS,kD,jW,ue,oE,dN]
theorem aef(hk:aH S 5 [] (.one (.p (.bool true)))){n:Int}(hlen:ls.length<=24)(hM:M.length<=1000)(hF:F<=40)(hck:iD (F:Int) ls=0)(qQ:iD (F:Int) M=0)(hsm:aH S 4 [fP F ls,vi 24] (rb true))
  (pp:aH S 6 [fP F ls,vi n] (EY ⟨k,a,b,c,l,o,sg⟩ true)) (pa:aH S 7 [fP F ls,gK k a b c l o sg] (uP F M)) (h1:1<=k) (h2:k<=10)
  (hs:k<9->sE (lk F (iZ ls)) (lk F (iZ M)) F=0/\xh (iZ ls)=xh (iZ M)) (ht:¬k<9->sE (lk F (iZ ls)) (lk F (iZ M)) F=1):
  aH S 3 [fP F ls,vi n] (rb true):=by
 have px:=afp hck hF aa;have py:=afp qQ hF aa;obtain⟨gv,_⟩:=Li hck;obtain⟨gw,_⟩:=Li qQ;have bx:=afm (k:=F) gv.len;have bY:=afm (k:=F) gw.len;have lx:(lk F (iZ ls)).length=F:=by simp[lk]
 have ly:(lk F (iZ M)).length=F:=by simp[lk]
 have pv:=Wt hck aa;have pw:=Wt qQ aa;have psl:=apQ h1 h2;have lo0:S.lone 192192128=false:=ah;have pP:S.lone 192384128=false:=ah;have sB:S.lone 192576064=false:=ah;have lo3:S.lone 192576192=false:=ah;have lp:∀ {blk:aB},land blk [] 192192128 ((EY ⟨k,a,b,c,l,o,sg⟩ true).gV (S.lone 192192128))=some (.tup [gK k a b c l o sg,.one (.p (.bool true))],[]):=by intro blk;rw[lo0];rfl
 have z00:((0:Int)!=0)=false:=rfl;generalize lk F (iZ ls)=x at*;generalize lk F (iZ M)=y at*;refine ba c3 ?_;simp only[go_sem,i3,s4,cH hsm,s6,dB pp lp,s7];refine Ld pa pP fun cx bc gx hb=>?_;have b0:=hb 192000000 ae;have b5:=hb 192192384 ae;simp only[go_sem] at b0 b5;obtain⟨rd,se,pN⟩:=gx.VZ;have hsB:∀B:aB,B (192384128+1)=bc (192384128+1)->Go.Abs.snap B dO cx=some (pR M,rd):=se;clear se hb;simp only[Nat.reduceAdd] at hsB;simp only[go_sem,b0,z00,s8];refine Yr px sB (CV _) fun aT g2 aU Eo=>?_
 have q7:=Eo 192384384 ae;have q0:=Eo 192000000 ae;have q5:=Eo 192192384 ae;have qx:=Eo (192384128+1) ae;simp only[go_sem,b0,b5] at q7 q0 q5 qx;have abk:=hsB aT qx;simp only[go_sem,q7,abk,s8];refine Yr py lo3 (CV _) fun jz g3 kG IV=>?_;have r7:=(IV 192384384 ae).trans q7;have r0:=(IV 192000000 ae).trans q0;have r5:=(IV 192192384 ae).trans q5;have rx:=(IV (192384128+1) ae).trans qx;have r2:=(IV 192576064 ae).trans aU;simp only[Nat.reduceAdd] at rx;have ak6:∀B:aB,B (192384128+1)=jz (192384128+1)->Go.Abs.snap B dO cx=some (pR M,rd):=fun B hB=>hsB B (hB.trans rx);clear hsB abk Eo IV gx;have wX:(iP x).length=F:=by simp[lx]
 have hyl:(iP y).length=F:=by simp[ly]
 have aK:((F:Int)!=(F:Int))=false:=af;simp only[go_sem,r0,lx,ly,aK];refine⟨by rcases pN with rfl|rfl<;>exact aD,?_⟩;refine cQ (fun j aj blk=>aj 2=.one (.bt 192000000 1 0)/\aj 5=.one (.bt 192192384 1 0)/\aj 7=.one (.bt 192384384 ((bc 192384384).1+1) 0)/\aj 9=.one (.hsl 192576064 g2 1 0 F)/\aj 10=.one (.hsl 192576192 g3 1 0 F)/\aj 11=vi (sE x y j)/\aj 12=vi j/\blk=jz) 0 F (aY _) ?_ ?_
 .simp only[go_sem];exact⟨rfl,rfl⟩
 rintro j aj blk hj ⟨h2,h5,h7,h9,dm,eF,iH,rfl⟩
 by_cases aq:j<F
 .have aJ:((j:Int)<(F:Int)):=aa;obtain⟨p,hp⟩:=aI (ls:=x) (k:=j) aa;obtain⟨q,hq⟩:=aI (ls:=y) (k:=j) aa;have ez:=oj hp;have Cw:=oj hq;have w1:=bG (n:=j) aa;have od:=bx p (aQ hp);have hbq:=bY q (aQ hq);have wd:IntKind.i64.wrap (p-q)=p-q:=Wu aa aa;have hsq:=aez (d:=p-q) aa aa;have wm:IntKind.i64.wrap ((p-q)*(p-q))=(p-q)*(p-q):=Wu aa aa;have hsb:=aql bx bY j;have cA:sE x y (j+1)=sE x y j+(p-q)*(p-q):=by
   rw[sE,cJ,cJ,hp,hq];rfl
  have ws:IntKind.i64.wrap (sE x y j+(p-q)*(p-q))=sE x y (j+1):=by rw[cA];exact Wu aa aa
  simp only[go_sem,i3_l1,h2,h5,h7,h9,dm,eF,iH,r2,kG,aq,aJ,ez,Cw,wd,wm,ws,w1];exact aD
 have:j=F:=aa;subst this;have ir:¬((j:Int)<(j:Int)):=Int.lt_irrefl _;by_cases hk9:k<9
 .obtain⟨jf,Em⟩:=hs hk9;have pe:=amC gv gw Em;rw[decide_eq_true hk9] at psl;rw[jf] at eF;have lo4:S.lone 193216064=false:=ah;have lo5:S.lone 193280064=false:=ah;simp only[go_sem,i3_l1,i3_r2,h2,h5,h9,iH,r0,r5,ir,s9,cH psl,s10];refine FU pv lo4 (CV _) rfl fun c1 qf wE kh=>?_;have s7:=(kh 192384384 ae).trans r7;have sx:=kh (192384128+1) ae;have hs4:=ak6 qf sx;simp only[go_sem,h7,s7,hs4,s10];refine FU pw lo5 (CV _) rfl fun c2 Ag oc xW=>?_
  have ajJ:=wE.of_eq (xW _ ae);obtain⟨rd1,il,_⟩:=ajJ.dO;obtain⟨rd2,tV,_⟩:=oc.dO;have z0t:((0:Int)==0)=true:=rfl;have lq:∀ {blk:aB} {rd:List Nat} {s:Nat} {q:Bool},land blk rd s ((uQ (.bool true) (.int .i64 0)).gV q)=some (.tup [.one (.p (.bool true)),.one (.p (.int .i64 0))],[]):=by intro blk rd s q;cases q<;>(unfold land;rw[if_pos (.inr rfl)];rfl)
  simp only[go_sem,eF,il,tV,s11,dB pe lq,z0t,s5,cH hk]
 have fL:=ht hk9;rw[decide_eq_false hk9] at psl;rw[fL] at eF;simp only[go_sem,i3_l1,i3_r2,h5,h9,eF,iH,r5,ir,s9,cH psl,s5,cH hk]
end
def cK(l:List Pc):List DL:=(l.filter fun p=>p.l.ay).map fun p=>(p.l.gate,p.d)
theorem nh(a b:List Pc):cK (a++b)=cK a++cK b:=by simp[cK]
theorem rR{p:Pc}{l:List Pc}(h:p.l.ay=true):cK (p::l)=(p.l.gate,p.d)::cK l:=by simp[cK,h]
theorem rQ{p:Pc}{l:List Pc}(h:p.l.ay=false):cK (p::l)=cK l:=by simp[cK,h]
theorem YF(l:List Pc):(cK l).map (·.1)=iZ (l.map Pc.l):=by
 induction l with
 |nil=>rfl
 |cons p l ih=>
  cases h:p.l.ay with
  |true=>rw[rR h,dG,ih];unfold iZ;simp[h]
  |false=>rw[rQ h,ih];unfold iZ;simp[h]
theorem YH{f:Pc->Pc}(hf:∀p,(f p).l.kind=p.l.kind/\(f p).l.gate=p.l.gate/\(f p).d=p.d)(l:List Pc):cK (l.map f)=cK l:=by
 induction l with
 |nil=>rfl
 |cons p l ih=>
  obtain⟨h1,h2,h3⟩:=hf p;have e:(f p).l.ay=p.l.ay:=by show((f p).l.kind==1)=(p.l.kind==1);rw[h1]
  rw[dG];cases h:p.l.ay with
  |true=>rw[rR h,rR (e.trans h),ih,h2,h3]
  |false=>rw[rQ h,rQ (e.trans h),ih]
theorem ac9{F:Nat}:∀ {z:List aG} {s t:dz},(∀x∈z,vz F x)->hY s z t->cK (z.map aG.p)=cV (!s.b) ((cK (z.map aG.p)).map (·.1)):=by
 intro z
 induction z with
 |nil=>intro s t _ _;rfl
 |cons x z ih=>
  intro s t ok h;obtain⟨rfl,h⟩:=h;have ox:=ok x af;have ih:=ih (fun x hx=>ok x (by simp[hx])) h;rw[dG];rcases yW ox.bad with hp|hc
  .have gE:x.p.l.ay=true:=hp;obtain⟨b1,b2⟩:=ox.pb hp;rw[rR gE,dG];show _=(x.p.l.gate,!x.i.b)::cV (!!x.i.b) _;rw[b2,Bool.not_not];rw[b1] at ih;rw[<- ih]
  have gE:x.p.l.ay=false:=by have ki:(x.p.l.kind==2)=true:=hc;show(x.p.l.kind==1)=false;rw[beq_iff_eq.1 ki];rfl
  rw[rQ gE,ox.cb hc];exact ih
theorem ajh(l:List Pc):(rT l).getD 0<=l.length:=by
 unfold rT;cases h:(List.range l.length).find? (M7 l) with
 |none=>exact aY _
 |some i=>have:=fk.1 (Ko h);exact Nat.le_of_lt this
theorem aje{F:Nat}{l:List Pc}(c:Cert F l):dR (cK l) (cV true (iZ (nj l))):=by
 have hf:=ajh l;obtain⟨i,hi⟩:∃i,rT l=some i:=by
  cases h:rT l with
  |some i=>exact⟨i,rfl⟩
  |none=>
   exfalso;obtain⟨z,T,B,S,e,cz⟩:=c;subst e;obtain⟨x,hx,hp,hd⟩:=cz.down;obtain⟨j,hj⟩:=jy hx;have k8:=(aV.1 hj).1;have sY:(z.map aG.p)[j]?=some x.p:=by rw[fX,hj];rfl
   have:=Hf.1 h j (by simpa using k8);rw[M8 sY] at this;unfold CN at this;have gE:(x.p.l.kind==1)=true:=hp;simp[gE,hd] at this
 rw[hi] at hf;have hf:i<=l.length:=hf;have e1:nj l=(l.drop i++l.take i).map Pc.l:=by unfold nj;rw[hi];exact VO hf
 have c2:Cert F (l.drop i++l.take i):=Cert.lh (by rw[lX];exact c);obtain⟨z,T,B,S,e,cz⟩:=c2;obtain⟨s,hp⟩:=cz.path;have ha:=ac9 cz.ok hp;rw[e] at ha;have h1:=List.find?_some hi;have h2:i<l.length:=fk.1 (Ko hi);obtain⟨p,iw⟩:=aI h2;rw[M8 iw] at h1;unfold CN at h1;rw[bQ] at h1;have ez:p.l.ay=true:=h1.1;have hd:l.drop i=p::l.drop (i+1):=by obtain⟨hh,rfl⟩:=aV.1 iw;exact yI hh
 have hs:(!s.b)=true:=by rw[hd,mq,rR ez] at ha;have:=(Hd ha).1;have h3:=congrArg Prod.snd this;have h4:p.d= !s.b:=h3;rw[<- h4];exact h1.2
 rw[hs,YF,<- e1] at ha;refine⟨cK (l.take i),cK (l.drop i),?_,?_⟩
 .rw[<- nh,lX]
 rw[<- nh];exact ha.symm
def jx(j:Int)(l:List DL):Int:=(l.map fun x=>if x.1<=j then (if x.2 then 1 else -1) else 0).sum
theorem Kf(j:Int)(a b:List DL):jx j (a++b)=jx j a+jx j b:=by simp[jx]
theorem GY{j:Int}{a b:List DL}(h:dR a b):jx j a=jx j b:=by obtain⟨u,v,rfl,rfl⟩:=h;rw[Kf,Kf,Int.add_comm]
theorem Wp(j:Int)(w:List Int):∀n,n<=w.length->lW w n j=jx j (cV true (w.take n)):=by
 intro n
 induction n with
 |zero=>intro _;rfl
 |succ n ih=>
  intro h;obtain⟨g,hg⟩:=aI (ls:=w) (k:=n) aa;have hd:w.getD n 0=g:=by rw[cJ,hg];rfl
  rw[lW,ih aa,kW,hg];show _=jx j (cV true (w.take n++[g]));rw[xE,Kf,hd,fJ,yK aa];unfold iQ;by_cases e:n%2=0
  .simp[jx,e]
  simp[jx,e]
theorem afn{F:Nat}{v w:List Int}(h:∀j:Nat,j<F->jx j (cV true v)=jx j (cV true w)):lk F v=lk F w:=by unfold lk;refine uu fun j hj=>?_;rw[Wp _ v _ (aZ _),Wp _ w _ (aZ _),jo,jo];exact h j (fk.1 hj)
def xn(a b:List DL):Prop:=dR a b\/ ∃u v x,(dR a (u++x::inv x::v)/\dR (u++v) b)\/(dR b (u++x::inv x::v)/\dR (u++v) a)
theorem dR.len{a b:List DL}(h:dR a b):a.length=b.length:=by obtain⟨u,v,rfl,rfl⟩:=h;simp[Nat.add_comm]
theorem aeh{a b u v:List DL}{x:DL}(he:a.length%2=0)(h1:dR a (u++x::inv x::v))(h2:dR (u++v) b):dR (ll (lH a)) (ll (lH b))/\ ∀j,jx j a=jx j b:=by
 have hl:=h1.len;have l7:(u++x::inv x::v).length=(u++v).length+2:=by simp;omega
 refine⟨?_,fun j=>?_⟩
 .have k1:=h1.cr he;rw[aov] at k1;exact k1.trans (h2.cr aa)
 rw[GY h1,<- GY h2,Kf,Kf];have:jx j (x::inv x::v)=jx j v:=by obtain⟨g,d⟩:=x;cases d<;>simp[jx,inv]<;>split<;>omega
 rw[this]
theorem aeg{a b:List DL}(he:a.length%2=0)(hb:b.length%2=0)(h:xn a b):dR (ll (lH a)) (ll (lH b))/\ ∀j,jx j a=jx j b:=by
 rcases h with h|⟨u,v,x,⟨h1,h2⟩|⟨h1,h2⟩⟩
 .exact⟨h.cr he,fun j=>GY h⟩
 .exact aeh he h1 h2
 obtain⟨k1,k2⟩:=aeh hb h1 h2;exact⟨k1.symm,fun j=>(k2 j).symm⟩
theorem xn.pre{a b c:List DL}(h:dR a b)(k:xn b c):xn a c:=by
 rcases k with k|⟨u,v,x,⟨h1,h2⟩|⟨h1,h2⟩⟩
 .exact .inl (h.trans k)
 .exact .inr ⟨u,v,x,.inl ⟨h.trans h1,h2⟩⟩
 exact .inr ⟨u,v,x,.inr ⟨h1,h2.trans h.symm⟩⟩
theorem xn.post{a b c:List DL}(k:xn a b)(h:dR b c):xn a c:=by
 rcases k with k|⟨u,v,x,⟨h1,h2⟩|⟨h1,h2⟩⟩
 .exact .inl (k.trans h)
 .exact .inr ⟨u,v,x,.inl ⟨h1,h2.trans h⟩⟩
 exact .inr ⟨u,v,x,.inr ⟨h.symm.trans h1,h2⟩⟩
theorem RQ{l:List Pc}(h:∀p∈l,p.l.ay=false):cK l=[]:=by unfold cK;rw[List.filter_eq_nil_iff.2 fun p hp=>by rw[h p hp];decide];rfl
theorem aiA{x y:Pc}(h:x.l.ay=false\/y.l.ay=false):cK [x,y]=cK [y,x]:=by
 rcases h with h|h
 .rw[rQ h];cases hy:y.l.ay with
  |true=>rw[rR hy,rR hy,rQ h]
  |false=>rw[rQ hy,rQ hy,rQ h]
 cases hx:x.l.ay with
 |true=>rw[rR hx,rQ h,rQ h,rR hx]
 |false=>rw[rQ hx,rQ h,rQ h,rQ hx]
theorem aiy{l:List Pc}{drop:Nat->Pc->Bool}(h:∀i p,l[i]?=some p->drop i p=true->p.l.ay=false):cK (mf l drop)=cK l:=by
 have key:∀k,k<=l.length->cK (oq l drop k)=cK (l.take k):=by
  intro k
  induction k with
  |zero=>intro _;rfl
  |succ k ih=>
   intro hk;obtain⟨p,hp⟩:=aI (ls:=l) (k:=k) aa;rw[kW,hp,nh,<- ih aa];cases hd:drop k p with
   |false=>rw[CB hp hd,nh];rfl
   |true=>rw[w8 hp hd];show _=_++cK [p];rw[rQ (h k p hp hd)];simp[cK]
 have:=key l.length (aZ _);rwa[jo] at this
theorem aiz(ids:List Int)(l:List Pc):cK (l.map (pQ ids))=cK l:=YH (fun p=>by unfold pQ jN;split<;>exact⟨rfl,rfl,rfl⟩) l
theorem Oa(g ab b:Int)(l:List Pc):cK (dT l g ab b)=cK l:=YH (fun p=>by unfold jw;split<;>exact⟨rfl,rfl,rfl⟩) l
theorem YE(l:List Pc)(ids:List Int):cK (FL l ids)=cK l:=by show cK ((mf l (sN ids)).map (pQ ids))=_;rw[aiz];refine aiy fun i p _ hd=>?_;unfold sN at hd;rw[bQ,beq_iff_eq] at hd;show(p.l.kind==1)=false;rw[hd.1];rfl
theorem YG(l x:List Pc)(k:Nat):cK (dK l x k)=cK (l.take (k+1))++cK x++cK (l.drop (k+1)):=by show cK (l.take (k+1)++x++l.drop (k+1))=_;rw[nh,nh]
theorem KR{l x:List Pc}{k:Nat}(h:∀p∈x,p.l.ay=false):cK (dK l x k)=cK l:=by rw[YG,RQ h,oN,<- nh,lX]
section
variable {F:Nat} {ls:List Let}
theorem Wd{l:List Pc}(hl:l.length=ls.length){e:Nat}(he:e<ls.length)(aK:e≠nx ls e)(hv:∃v p,(v=e\/v=nx ls e)/\l[v]?=some p/\p.l.ay=false):dR (cK l) (cK (fU ls l e)):=by
 have hn:nx ls e<ls.length:=dw _ aa;obtain⟨x,hx⟩:=aI (ls:=l) (k:=e) aa;obtain⟨y,hy⟩:=aI (ls:=l) (k:=nx ls e) aa;have kr:x.l.ay=false\/y.l.ay=false:=by
  obtain⟨v,p,h|h,hp,hk⟩:=hv
  .subst h;rw[hx] at hp;cases hp;exact .inl hk
  subst h;rw[hy] at hp;cases hp;exact .inr hk
 have hg:∀i,(fU ls l e)[i]?=if i=nx ls e then l[e]? else if i=e then l[nx ls e]? else l[i]? :=fun i=>Fb hl he i;by_cases h1:e+1<ls.length
 .have qV:nx ls e=e+1:=fK h1;have e1:l=l.take e++[x,y]++l.drop (e+2):=by
   obtain⟨a1,b1⟩:=aV.1 hx;rw[qV] at hy;obtain⟨a2,b2⟩:=aV.1 hy
   conv=>lhs;rw[<- lX e l,yI a1,yI a2,b1,b2]
   simp
  have e2:fU ls l e=l.take e++[y,x]++l.drop (e+2):=by
   apply xx;intro i;rw[hg,qV,qG];rw[qV] at hy;have vn:(l.take e).length=e:=by rw[fJ];omega
   by_cases c1:i<e
   .rw[if_neg aa,if_neg aa,oO aa,jm,if_pos c1]
   rw[nV aa,vn];by_cases c2:i=e
   .subst c2;rw[if_neg aa,if_pos rfl,Nat.sub_self];exact hy
   by_cases c3:i=e+1
   .subst c3;rw[if_pos rfl,Nat.add_sub_cancel_left];exact hx
   rw[if_neg c3,if_neg c2];obtain⟨j,rfl⟩:∃j,i=e+2+j:=⟨i-(e+2),aa⟩;rw[show e+2+j-e=j+1+1 by omega];simp
  rw[e2]
  conv=>lhs;rw[e1]
  rw[nh,nh,nh,nh,aiA kr];exact dR.refl _
 have LS:e=ls.length-1:=aa;have qV:nx ls e=0:=by unfold nx;rw[show e+1=ls.length by omega,xz]
 rw[qV] at hy aK;have e1:l=[y]++(l.drop 1).take (ls.length-2)++[x]:=by
  apply xx;intro i;by_cases c0:i=0
  .subst c0;rw[hy];rfl
  rw[qG,nV (by simp;omega)];simp only[cE,dQ];have vn:((l.drop 1).take (ls.length-2)).length=ls.length-2:=by rw[fJ,nW];omega
  by_cases c1:i-(0+1)<ls.length-2
  .rw[oO aa,jm,if_pos c1,ur];congr 1;omega
  rw[nV aa,vn];by_cases c2:i=e
  .rw[c2,hx,show e-(0+1)-(ls.length-2)=0 by omega];rfl
  rw[mS aa,mS (by simp;omega)]
 have e2:fU ls l e=[x]++(l.drop 1).take (ls.length-2)++[y]:=by
  apply xx;intro i;rw[hg,qV];by_cases c0:i=0
  .subst c0;rw[if_pos rfl,hx];rfl
  rw[if_neg c0,qG,nV (by simp;omega)];simp only[cE,dQ];have vn:((l.drop 1).take (ls.length-2)).length=ls.length-2:=by rw[fJ,nW];omega
  by_cases c1:i-(0+1)<ls.length-2
  .rw[if_neg aa,oO aa,jm,if_pos c1,ur];congr 1;omega
  rw[nV aa,vn];by_cases c2:i=e
  .rw[if_pos c2,hy,c2,show e-(0+1)-(ls.length-2)=0 by omega];rfl
  rw[if_neg c2,mS aa,mS (by simp;omega)]
 generalize (l.drop 1).take (ls.length-2)=m at e1 e2;rw[e2]
 conv=>lhs;rw[e1]
 rw[nh,nh,nh,nh];rcases kr with h|h
 .rw[RQ (l:=[x]) (by simpa using h),oN,gZ];exact⟨_,_,rfl,rfl⟩
 rw[RQ (l:=[y]) (by simpa using h),oN,gZ];exact⟨_,_,rfl,rfl⟩
end
section
variable {F:Nat} {ls:List Let}
theorem ano:(pieces ls).map Pc.l=ls:=by
 have h:=gY ls;rw[<- h];have e:aM (zF ls)=((zF ls).map aG.p).map Pc.l:=by rw[qH];rfl
 rw[h,<- um,<- e,h]
theorem Xy(g:ct F ls):cK (pieces ls)=cV true (iZ ls):=by
 have cz:=g.cz;obtain⟨s,hp⟩:=cz.path;have ha:=ac9 cz.ok hp;rw[um] at ha;obtain⟨l,h0,hl⟩:=g.first;have AN:=nL h0;obtain⟨t,ht⟩:∃t,pieces ls=⟨l,iE ls 0⟩::t:=by
  cases hh:pieces ls with
  |nil=>rw[hh] at AN;cases AN
  |cons a t=>rw[hh] at AN;cases AN;exact⟨t,rfl⟩
 have hd:iE ls 0=true:=by unfold iE;rw[h0];show(l.ay&&dn ls 0)=true;rw[hl];rfl
 have hs:(!s.b)=true:=by rw[ht,rR (show(⟨l,iE ls 0⟩:Pc).l.ay=true from hl)] at ha;have h3:=congrArg Prod.snd (Hd ha).1;have h4:iE ls 0= !s.b:=h3;rw[<- h4];exact hd
 rw[hs,YF,ano] at ha;exact ha
theorem alO{l:List Pc}{drop:Nat->Pc->Bool}{u v:List Pc}{x y:Pc}(h:l=u++x::y::v)(hd:∀i p,drop i p=true↔i=u.length\/i=u.length+1):mf l drop=u++v:=by
 have nd:∀i p,i≠u.length->i≠u.length+1->drop i p=false:=fun i p h1 h2=>by
  cases hh:drop i p with
  |false=>rfl
  |true=>have:=(hd i p).1 hh;omega
 have k1:∀k,k<=u.length->oq l drop k=u.take k:=by
  intro k
  induction k with
  |zero=>intro _;rfl
  |succ k ih=>
   intro hk;obtain⟨p,hp⟩:=aI (ls:=u) (k:=k) aa;have bh:l[k]?=some p:=by rw[h,oO aa];exact hp
   rw[CB bh (nd k p aa aa),ih aa,kW,hp];rfl
 have k2:oq l drop (u.length+1)=u:=by rw[w8 (p:=x) (by rw[h,nV (aZ _),Nat.sub_self];rfl) ((hd _ _).2 (.inl rfl)),k1 _ (aZ _),jo]
 have k3:oq l drop (u.length+2)=u:=by rw[w8 (p:=y) (by rw[h,nV aa,Nat.add_sub_cancel_left];rfl) ((hd _ _).2 (.inr rfl)),k2]
 have k4:∀k,k<=v.length->oq l drop (u.length+2+k)=u++v.take k:=by
  intro k
  induction k with
  |zero=>intro _;rw[rA,k3];simp
  |succ k ih=>
   intro hk;obtain⟨p,hp⟩:=aI (ls:=v) (k:=k) aa;have bh:l[u.length+2+k]?=some p:=by rw[h,nV aa,show u.length+2+k-u.length=k+1+1 by omega];exact hp
   rw[<- Bt,CB bh (nd _ p aa aa),ih aa,kW,hp];simp
 have:=k4 v.length (aZ _);rw[jo] at this;unfold mf;rw[show l.length=u.length+2+v.length by rw[h];simp;omega];exact this
theorem alN{l:List Pc}{drop:Nat->Pc->Bool}{m:List Pc}{x y:Pc}(h:l=y::m++[x])(hd:∀i p,drop i p=true↔i=0\/i=m.length+1):mf l drop=m:=by
 have nd:∀i p,i≠0->i≠m.length+1->drop i p=false:=fun i p h1 h2=>by
  cases hh:drop i p with
  |false=>rfl
  |true=>have:=(hd i p).1 hh;omega
 have k1:oq l drop 1=[]:=by rw[show(1:Nat)=0+1 from rfl,w8 (p:=y) (by rw[h];rfl) ((hd _ _).2 (.inl rfl))];rfl
 have k4:∀k,k<=m.length->oq l drop (1+k)=m.take k:=by
  intro k
  induction k with
  |zero=>intro _;exact k1
  |succ k ih=>
   intro hk;obtain⟨p,hp⟩:=aI (ls:=m) (k:=k) aa;have bh:l[1+k]?=some p:=by rw[h,mq,show 1+k=k+1 by omega,List.getElem?_cons_succ,oO aa];exact hp
   rw[<- Bt,CB bh (nd _ p aa aa),ih aa,kW,hp];rfl
 have h5:=k4 m.length (aZ _);rw[jo] at h5;unfold mf;rw[show l.length=1+m.length+1 by rw[h];simp;omega,w8 (p:=x) (by rw[h,nV (by simp;omega)];simp;rw[show 1+m.length-(m.length+1)=0 by omega];rfl) ((hd _ _).2 (.inr aa)),h5]
theorem slk1(g:ct F ls){a:Nat}(ha:a<ls.length)(h:Bz ls a=some L):xn (cK (pieces ls)) (cK L):=by
 have bh:=eW ls;have aK:=GD g ha;have hn:nx ls a<ls.length:=dw _ aa;unfold Bz at h;simp only at h;split at h
 case isFalse=>cases h
 rename_i hc;cases h;obtain⟨p,hp⟩:=aI (ls:=pieces ls) (k:=a) aa;obtain⟨q,hq⟩:=aI (ls:=pieces ls) (k:=(a+1)%ls.length) (by rw[bh];exact hn);have ep:(pieces ls).getD a ⟨kP,false⟩=p:=by rw[cJ,hp];rfl
 have eq_:(pieces ls).getD ((a+1)%ls.length) ⟨kP,false⟩=q:=by rw[cJ,hq];rfl
 rw[ep,eq_] at hc;simp only[bQ,beq_iff_eq] at hc;obtain⟨c1,c2,c3,_⟩:=hc;have pp:p.l.ay=true:=by show(p.l.kind==1)=true;rw[c1];rfl
 have qp:q.l.ay=true:=by show(q.l.kind==1)=true;rw[c2];rfl
 rw[Oa];have hb:=Xy g;by_cases h1:a+1<ls.length
 .have qV:(a+1)%ls.length=a+1:=fK h1;rw[qV] at hq;have e1:pieces ls=(pieces ls).take a++p::q::(pieces ls).drop (a+2):=by
   obtain⟨a1,b1⟩:=aV.1 hp;obtain⟨a2,b2⟩:=aV.1 hq
   conv=>lhs;rw[<- lX a (pieces ls),yI a1,yI a2,b1,b2]
  have Ey:((pieces ls).take a).length=a:=by rw[fJ];omega
  generalize (pieces ls).take a=U at e1 Ey;generalize (pieces ls).drop (a+2)=V at e1;have hk:=alO (drop:=fun k _=>decide (k=a)||decide (k=(a+1)%ls.length)) e1 (fun i p=>by rw[Ey,qV];simp);rw[hk];rw[e1,nh,rR pp,rR qp,c3] at hb ⊢;obtain⟨u,v,e2,e3,e4⟩:=NS hb.symm;have hqd:q.d= !p.d:=by
   cases v with
   |nil=>cases e4
   |cons g1 v=>
    cases v with
    |nil=>cases (Hd e4).2
    |cons g2 v=>obtain⟨f1,f2⟩:=Hd e4;obtain⟨f3,_⟩:=Hd f2;have f1':=congrArg Prod.snd f1;have f3':=congrArg Prod.snd f3;simp only at f1' f3';rw[f1',f3']
  refine .inr ⟨cK U,cK V,(q.l.gate,p.d),.inl ⟨?_,?_⟩⟩
  .rw[show inv (q.l.gate,p.d)=(q.l.gate,q.d) by rw[hqd];rfl];exact dR.refl _
  rw[<- nh];exact dR.refl _
 have xS:a=ls.length-1:=aa;have qV:(a+1)%ls.length=0:=by rw[show a+1=ls.length by omega,xz]
 rw[qV] at hq;have h2:2<=ls.length:=by have:a≠0:=fun h=>aK (by rw[h] at qV ⊢;show 0=(0+1)%ls.length;rw[qV]);omega
 have e1:pieces ls=q::((pieces ls).drop 1).take (ls.length-2)++[p]:=by
  apply xx;intro i;by_cases c0:i=0
  .subst c0;rw[hq];rfl
  obtain⟨j,rfl⟩:∃j,i=j+1:=⟨i-1,aa⟩;have vn:(((pieces ls).drop 1).take (ls.length-2)).length=ls.length-2:=by rw[fJ,nW];omega
  rw[mq,List.getElem?_cons_succ];by_cases d1:j<ls.length-2
  .rw[oO aa,jm,if_pos d1,ur];congr 1;omega
  rw[nV aa,vn];by_cases d2:j+1=a
  .rw[d2,hp,show j-(ls.length-2)=0 by omega];rfl
  rw[mS aa,mS (by simp;omega)]
 have kJ:(((pieces ls).drop 1).take (ls.length-2)).length=ls.length-2:=by rw[fJ,nW];omega
 have hk:=alN (drop:=fun k _=>decide (k=a)||decide (k=(a+1)%ls.length)) e1 (fun i p=>by rw[kJ,qV];simp;omega);rw[hk];generalize ((pieces ls).drop 1).take (ls.length-2)=m at e1 kJ hk;rw[e1,nh,rR qp,rR (l:=[]) pp] at hb ⊢;have e0:cK ([]:List Pc)=[]:=rfl;rw[e0] at hb ⊢;have qA:p.d=false/\q.d=true:=by
  have dD:=g.even;have hlen:(iZ ls).length=au Let.ay ls:=by unfold iZ au;rw[cF,NB]
  have l7:=congrArg List.length hb;rw[vT,hlen] at l7;simp only[fc,cE,dQ] at l7;obtain⟨u,v,e2,e3,e4⟩:=NS hb.symm;have hu:u.length%2=1:=by have:=congrArg List.length e3;rw[vT] at this;simp only[cE] at this;omega
  have hpu:iQ true u.length=false:=by unfold iQ;rw[if_neg aa];rfl
  rw[hpu] at e4;constructor
  .cases v with
   |nil=>cases e4
   |cons g1 v=>have:=congrArg Prod.snd (Hd e4).1;exact this
  cases u with
  |nil=>cases e3
  |cons g1 u=>have:=congrArg Prod.snd (Hd e3).1;exact this
 refine .inr ⟨[],cK m,(q.l.gate,false),.inl ⟨?_,?_⟩⟩
 .refine⟨(q.l.gate,q.d)::cK m,[(p.l.gate,p.d)],rfl,?_⟩;rw[c3,qA.1,qA.2];rfl
 exact dR.refl _
theorem slk2{a b c:Nat}(h:u4 F ls a b c=some L):xn (cK (pieces ls)) (cK L):=by
 have key:∀f side,L=vU ls a b c f side->xn (cK (pieces ls)) (cK L):=by
  intro f side e;subst e;unfold vU;rw[YG];refine .inr ⟨cK ((dT (pieces ls) b c 2).take (a+1)),cK ((dT (pieces ls) b c 2).drop (a+1)),((b:Int),f.ek),.inr ⟨?_,?_⟩⟩
  .have:∀r1 r2,cK [pV b r1 f.ek,pV b r2 (!f.ek)]=[((b:Int),f.ek),inv ((b:Int),f.ek)]:=fun _ _=>rfl;rw[this,qG];exact dR.refl _
  rw[<- nh,lX,Oa];exact dR.refl _
 unfold u4 at h;split at h
 .cases h;exact key _ _ rfl
 split at h
 .cases h;exact key _ _ rfl
 cases h
theorem aqM:∀(es:List Nat) (l:List Pc),l.length=ls.length->(∀e∈es,e<ls.length/\e≠nx ls e)->(∀e∈es,∀i,i=e\/i=nx ls e->∀p,l[i]?=some p->p.l.ay=false)->dR (cK l) (cK (iY ls l es)):=by
 intro es
 induction es with
 |nil=>intro l _ _ _;exact dR.refl _
 |cons e es ih=>
  intro l hl he hn;obtain⟨LS,Cf⟩:=he e af;have ir:nx ls e<ls.length:=dw _ aa;obtain⟨x,hx⟩:=aI (ls:=l) (k:=e) aa;have h1:=Wd hl LS Cf ⟨e,x,.inl rfl,hx,hn e af e (.inl rfl) x hx⟩;refine h1.trans (ih _ (by rw[CZ,hl]) (fun e h=>he e (by simp[h])) fun e' Ce i hi p hp=>?_);rw[Fb hl LS] at hp;split at hp
  .exact hn e af e (.inl rfl) p hp
  split at hp
  .exact hn e af (nx ls e) (.inr rfl) p hp
  exact hn e' (by simp[Ce]) i hi p hp
theorem slk8(g:ct F ls){a b c:Nat}(ha:a<ls.length)(hb:b<ls.length)(hc:c<ls.length)(h:zX F ls a b c=some L):xn (cK (pieces ls)) (cK L):=by
 have bh:=eW ls;unfold zX at h;split at h
 case isFalse=>cases h
 rename_i ht;cases h;have dX:∀e∈[a,b,c],y7 ls e=true:=by unfold JZ at ht;rw[bQ] at ht;exact fun e he=>iC.1 ht.1 e he
 have aq:∀e∈[a,b,c],e<ls.length:=by intro e he;simp only[cT,hJ,or_false] at he;rcases he with rfl|rfl|rfl<;>assumption
 refine .inl (aqM _ _ bh (fun e he=>⟨aq e he,GD g (aq e he)⟩) fun e he i hi p hp=>?_);have DW:=dX e he;unfold y7 at DW;rw[bQ,beq_iff_eq,beq_iff_eq] at DW;show(p.l.kind==1)=false;rcases hi with rfl|rfl
 .rw[iW hp] at DW;rw[DW.1];rfl
 rw[iW hp] at DW;rw[DW.2];rfl
theorem YJ(l:List Pc)(i:Nat)(r:Int):cK (gA l i r)=cK l:=by
 by_cases h:i<l.length
 .obtain⟨p,hp⟩:=aI h;obtain⟨a1,b1⟩:=aV.1 hp;have e:gA l i r=l.take i++⟨{p.l with aA:=r},p.d⟩::l.drop (i+1):=by
   unfold gA;rw[cJ,hp,List.set_eq_take_append_cons_drop,if_pos h];rfl
  have e2:l=l.take i++p::l.drop (i+1):=by conv=>lhs;rw[<- lX i l,yI a1,b1]
  rw[e]
  conv=>rhs;rw[e2]
  rw[nh,nh];congr 1;cases hk:p.l.ay with
  |true=>rw[rR hk,rR (show(⟨{p.l with aA:=r},p.d⟩:Pc).l.ay=true from hk)]
  |false=>rw[rQ hk,rQ (show(⟨{p.l with aA:=r},p.d⟩:Pc).l.ay=false from hk)]
 unfold gA;rw[NJ aa]
end
section
variable {F:Nat} {ls:List Let}
theorem Qd{l:List Pc}{i j:Nat}{r:Int}{p:Pc}(h:l[j]?=some p):∃q,(gA l i r)[j]?=some q/\q.l.ay=p.l.ay:=by
 by_cases hi:i<l.length
 .obtain⟨q,hq⟩:=aI hi;rw[Qc hq];by_cases e:j=i
  .subst e;rw[hq] at h;cases h;exact⟨_,if_pos rfl,rfl⟩
  exact⟨p,by rw[if_neg e];exact h,rfl⟩
 refine⟨p,?_,rfl⟩;unfold gA;rw[NJ aa];exact h
theorem slk3(g:ct F ls){a b:Nat}(ha:a<ls.length)(hb:b<ls.length)(h:BE F ls a b=some L):xn (cK (pieces ls)) (cK L):=by
 have bh:=eW ls;unfold BE at h;split at h
 case isFalse=>cases h
 rename_i hc;simp only[bQ,gH,beq_eq_false_iff_ne] at hc;obtain⟨c1,c2,c3,_⟩:=hc;cases h;obtain⟨ea,⟨l,hl,cl⟩,m,hm,pm⟩:=PQ aa ha c1;obtain⟨eb,⟨l',r9,HP⟩,_⟩:=PQ aa hb c2;obtain⟨lb1,lb2⟩:=Vx hb;generalize (pA ls (iX ls b).1).l.aA=r1;generalize (pA ls (iX ls a).1).l.aA=r2;generalize (iX ls a).1=pa at*;generalize (iX ls a).2.1=va at*;generalize (iX ls b).1=pb at*;generalize (iX ls b).2.1=vb at*;have aK:vb≠pa:=fun e=>by rw[e,hm] at r9;cases r9;have:=mA pm;rw[HP] at this;cases this
 obtain⟨q1,Gh,k1⟩:=Qd (i:=pa) (r:=r1) (nL hl);obtain⟨q2,Gi,k2⟩:=Qd (i:=pb) (r:=r2) Gh;obtain⟨u1,wU,j1⟩:=Qd (i:=pa) (r:=r1) (nL r9);obtain⟨u2,zI,j2⟩:=Qd (i:=pb) (r:=r2) wU;have n2:q2.l.ay=false:=by rw[k2,k1];exact kO cl
 have n4:u2.l.ay=false:=by rw[j2,j1];exact kO HP
 have e0:cK (gA (gA (pieces ls) pa r1) pb r2)=cK (pieces ls):=by rw[YJ,YJ]
 have vh:(gA (gA (pieces ls) pa r1) pb r2).length=ls.length:=by rw[Be,Be,bh]
 generalize gA (gA (pieces ls) pa r1) pb r2=X at*;have s1:=Wd vh ha (GD g ha) ⟨va,q2,aa,Gi,n2⟩;have s2:=Wd (l:=fU ls X a) (by rw[CZ,vh]) hb (GD g hb) ⟨vb,u2,aa,by
  rw[Fb vh ha,if_neg aa,if_neg aa];exact zI,n4⟩
 rw[<- e0];exact .inl (s1.trans s2)
theorem slk4{a:Nat}(h:CC ls a=some L):cK L=cK (pieces ls):=by
 unfold CC at h;simp only at h;split at h
 case isFalse=>cases h
 cases h;exact YE _ _
theorem slk6{a b:Nat}(h:CM F ls a b=some L):cK L=cK (pieces ls):=by
 unfold CM at h;split at h
 case isFalse=>cases h
 cases h;exact YE _ _
end
section
variable {F:Nat} {ls:List Let}
theorem slk5{a:Nat}{sg:Int}{o:Bool}:cK (EG ls a sg o)=cK (pieces ls):=by unfold EG;exact KR (by simp[Let.ay])
theorem slk7{a b:Nat}{l o:Bool}(h:CR F ls a b l o=some L):cK L=cK (pieces ls):=by
 have key:∀s t,gM ls a b l o s t=some L->cK L=cK (pieces ls):=fun s t h=>by
  unfold gM at h;split at h
  .cases h
  simp only[fg] at h;subst h;generalize (if (o==(s==l))=true then (1:Int) else -1)=sg;have e:∀p∈rl (au Let.aw ls/2) sg o,p.l.ay=false:=by simp[Let.ay]
  have e2:∀p∈nN (au Let.aw ls/2) sg o s,p.l.ay=false:=by unfold nN;split<;>simp[Let.ay]
  split
  .rw[KR e,KR e2]
  rw[KR e2,KR e]
 unfold CR at h;split at h
 .exact key _ _ h
 exact key _ _ h
def No(F:Nat)(x y:List DL):Prop:= ∃(u v:List DL) (G:Nat) (d:Bool),G<F/\((x=u++((G:Int),d)::v/\y=u++(((G+1:Nat):Int),d)::v)\/(y=u++((G:Int),d)::v/\x=u++(((G+1:Nat):Int),d)::v))
theorem YI{l:List Pc}{a:Nat}{p:Pc}(h:l[a]?=some p)(hp:p.l.ay=true)(G r:Int):∃u v,cK l=u++(p.l.gate,p.d)::v/\cK (tm l a G r)=u++(G,p.d)::v:=by
 obtain⟨a1,b1⟩:=aV.1 h;refine⟨cK (l.take a),cK (l.drop (a+1)),?_,?_⟩
 .rw[<- rR hp,<- nh,<- b1,<- yI a1,lX]
 unfold tm;rw[cJ,h,List.set_eq_take_append_cons_drop,if_pos a1,nh];rw[show(some p).getD ⟨kP,false⟩=p from rfl];rw[rR (show(⟨{p.l with gate:=G,aA:=r},p.d⟩:Pc).l.ay=true from hp)]
theorem ad6{g ab b:Int}{p:Pc}{a:Nat}{l:List Pc}(h:l[a]?=some p):∃q,(dT l g ab b)[a]?=some q/\q.l.kind=p.l.kind/\q.l.gate=p.l.gate/\q.d=p.d:=by
 refine⟨jw g ab b p,?_,?_⟩
 .show(l.map _)[a]?=_;rw[fX,h];rfl
 unfold jw;split<;>exact⟨rfl,rfl,rfl⟩
theorem slk9{a:Nat}(ha:a<ls.length)(hg:∀l∈ls,l.ay=true->0<=l.gate)(h:Db F ls a=some L):No F (cK (pieces ls)) (cK L):=by
 obtain⟨l,hl⟩:=aI ha;have hp:=nL hl;have Ge:pA ls a=⟨l,iE ls a⟩:=iW hp;unfold Db at h;rw[Ge] at h;split at h
 case isFalse=>cases h
 rename_i hc;simp only[bQ,decide_eq_true_eq] at hc;obtain⟨c1,c2,_⟩:=hc;cases h;have hP:l.ay=true:=c1;have h0:=hg l (aQ hl) hP;obtain⟨G,hG⟩:=oL h0;simp only at c1 c2 ⊢;obtain⟨q,hq,e1,e2,e3⟩:=ad6 (g:=l.gate+1) (ab:=0) (b:=1) hp;have hqP:q.l.ay=true:=by show(q.l.kind==1)=true;rw[e1];exact c1
 obtain⟨u,v,h1,h2⟩:=YI hq hqP (l.gate+1) 1;rw[Oa,e2] at h1;refine⟨u,v,G,q.d,aa,.inl ⟨?_,?_⟩⟩
 .rw[h1,hG]
 rw[h2,hG];rfl
theorem apS{a:Nat}(ha:a<ls.length)(hg:∀l∈ls,l.ay=true->l.gate<=(F:Int))(h:C0 ls a=some L):No F (cK (pieces ls)) (cK L):=by
 obtain⟨l,hl⟩:=aI ha;have hp:=nL hl;have Ge:pA ls a=⟨l,iE ls a⟩:=iW hp;unfold C0 at h;rw[Ge] at h;split at h
 case isFalse=>cases h
 rename_i hc;simp only[bQ,decide_eq_true_eq] at hc;obtain⟨c1,c2,_⟩:=hc;cases h;have hP:l.ay=true:=c1;have h0:=hg l (aQ hl) hP;simp only at c1 c2 ⊢;obtain⟨G,hG⟩:∃G:Nat,l.gate=((G+1:Nat):Int):=⟨l.gate.toNat-1,aa⟩;have wN:l.gate-1=(G:Int):=aa;obtain⟨q,hq,e1,e2,e3⟩:=ad6 (g:=l.gate) (ab:=1) (b:= -1) hp;have hqP:q.l.ay=true:=by show(q.l.kind==1)=true;rw[e1];exact c1
 obtain⟨u,v,h1,h2⟩:=YI hq hqP (l.gate-1) ((cg ls (l.gate-1).toNat+1:Nat):Int);rw[Oa,e2] at h1;refine⟨u,v,G,q.d,aa,.inr ⟨?_,?_⟩⟩
 .rw[h2,wN]
 rw[h1,hG]
theorem aqH{x y:List DL}(h:No F x y):∃G,G<F/\(jx (G:Nat) x-jx (G:Nat) y)*(jx (G:Nat) x-jx (G:Nat) y)=1/\ ∀j:Nat,j≠G->jx j x=jx j y:=by
 have one:∀(G:Nat) (d:Bool) (u v:List DL),(jx (G:Nat) (u++((G:Int),d)::v)-jx (G:Nat) (u++(((G+1:Nat):Int),d)::v)=1\/jx (G:Nat) (u++((G:Int),d)::v)-jx (G:Nat) (u++(((G+1:Nat):Int),d)::v)= -1)/\
   ∀j:Nat,j≠G->jx j (u++((G:Int),d)::v)=jx j (u++(((G+1:Nat):Int),d)::v):=by
  intro G d u v;have sp:∀(j:Int) (x:DL) (v:List DL),jx j (u++x::v)=jx j u+((if x.1<=j then (if x.2 then 1 else -1) else 0)+jx j v):=fun j x v=>by rw[Kf];rfl
  constructor
  .rw[sp,sp];simp only[Int.le_refl,if_true];rw[if_neg (show ¬(((G+1:Nat):Int)<=(G:Int)) by omega)];cases d<;>simp<;>omega
  intro j hj;rw[sp,sp];simp only;by_cases aq:(G:Int)<=(j:Int)
  .rw[if_pos aq,if_pos (show((G+1:Nat):Int)<=(j:Int) by omega)]
  rw[if_neg aq,if_neg (show ¬(((G+1:Nat):Int)<=(j:Int)) by omega)]
 obtain⟨u,v,G,d,hG,⟨rfl,rfl⟩|⟨rfl,rfl⟩⟩:=h
 .obtain⟨h1,h2⟩:=one G d u v;refine⟨G,hG,?_,h2⟩;rcases h1 with e|e<;>rw[e]<;>rfl
 obtain⟨h1,h2⟩:=one G d u v;refine⟨G,hG,?_,fun j hj=>(h2 j hj).symm⟩;rw[<- Int.neg_mul_neg,Int.neg_sub];rcases h1 with e|e<;>rw[e]<;>rfl
theorem aqm{a b:List Int}{G:Nat}(h1:(a.getD G 0-b.getD G 0)*(a.getD G 0-b.getD G 0)=1)(h2:∀j,j≠G->a.getD j 0=b.getD j 0):∀n,sE a b n=if G<n then 1 else 0:=by
 intro n
 induction n with
 |zero=>rfl
 |succ n ih=>
  rw[sE,ih];by_cases e:n=G
  .subst e;rw[h1,if_neg aa,if_pos aa];rfl
  rw[h2 n e,Int.sub_self,Int.mul_zero,Int.add_zero];by_cases aq:G<n
  .rw[if_pos aq,if_pos aa]
  rw[if_neg aq,if_neg aa]
theorem Qz{v:List Int}{j:Nat}:(lk F v).getD j 0=if j<F then jx j (cV true v) else 0:=by
 rw[cJ];by_cases h:j<F
 .rw[if_pos h];unfold lk;rw[fX,tu h];show lW v v.length j=_;rw[Wp _ v _ (aZ _),jo]
 rw[if_neg h,mS (by simp[lk];omega)];rfl
theorem aqG{v w:List Int}{x y:List DL}(h:No F x y)(hv:dR x (cV true v))(hw:dR y (cV true w)):sE (lk F v) (lk F w) F=1:=by
 obtain⟨G,hG,h1,h2⟩:=aqH h;rw[aqm (G:=G) ?_ ?_ F,if_pos hG]
 .rw[Qz,Qz,if_pos hG,if_pos hG,<- GY hv,<- GY hw];exact h1
 intro j hj;rw[Qz,Qz];split
 .rw[<- GY hv,<- GY hw];exact h2 j hj
 rfl
theorem apT(g:ct F ls){k a b c:Int}{l o:Bool}{sg:Int}(hA:bl F ls k a b c l o sg=true)(h:ow F ls k a.toNat b.toNat c.toNat l o sg=some L)(h1:1<=k)(h2:k<=10):
  (L=[]\/Cert F L)/\(k<9->xn (cK (pieces ls)) (cK L))/\(¬k<9->No F (cK (pieces ls)) (cK L)):=by
 have hgate:∀l∈ls,l.ay=true->0<=l.gate/\l.gate<=(F:Int):=fun l hl hp=>((lU hp).1 (g.bad l hl)).1.1.1;unfold bl at hA;unfold ow at h;by_cases e1:k=1
 .subst e1;simp only[Int.reduceEq,if_true,if_false,or_false,or_self] at hA h ⊢;simp only[bQ,gH,beq_iff_eq] at hA;obtain⟨rfl,rfl,rfl,hx,rfl,rfl⟩:=hA;obtain⟨av,rfl,ha⟩:=fT hx;exact⟨XM g ha h,fun _=>slk1 g ha h,fun hh=>absurd ae hh⟩
 by_cases e2:k=2
 .subst e2;simp only[Int.reduceEq,if_true,if_false,or_self] at hA h ⊢;simp only[bQ,uq,gH,beq_iff_eq,decide_eq_true_eq] at hA;obtain⟨rfl,rfl,rfl,hx,iL,aR,LD,fG⟩:=hA;have hl:=iR.2 g.ne;rcases hx with hx|⟨hx,_⟩
  .obtain⟨av,rfl,ha⟩:=fT hx;exact⟨.inr (XO g ha aa aa h),fun _=>slk2 h,fun hh=>absurd ae hh⟩
  omega
 by_cases e3:k=3
 .subst e3;simp only[Int.reduceEq,if_true,if_false,or_false,or_self] at hA h ⊢;simp only[bQ,gH,beq_iff_eq,decide_eq_true_eq] at hA;obtain⟨rfl,rfl,rfl,hx,rfl,hy,aq⟩:=hA;obtain⟨av,rfl,ha⟩:=fT hx;obtain⟨bv,rfl,hb⟩:=fT hy;exact⟨.inr (XQ g ha hb aa h),fun _=>slk3 g ha hb h,fun hh=>absurd ae hh⟩
 by_cases e4:k=4
 .subst e4;simp only[Int.reduceEq,if_true,if_false,or_false,or_true,or_self] at hA h ⊢;simp only[bQ,gH,beq_iff_eq] at hA;obtain⟨rfl,rfl,rfl,hx,rfl,rfl⟩:=hA;obtain⟨av,rfl,ha⟩:=fT hx;exact⟨.inr (XS g ha h),fun _=>.inl (by rw[slk4 h];exact dR.refl _),fun hh=>absurd ae hh⟩
 by_cases e5:k=5
 .subst e5;simp only[Int.reduceEq,if_true,if_false,or_self,fg] at hA h ⊢;simp only[bQ,uq,gH,beq_iff_eq] at hA;obtain⟨rfl,hs,hx,rfl,rfl⟩:=hA;obtain⟨av,rfl,ha⟩:=fT hx;subst h;exact⟨.inr (XT g ha hs),fun _=>.inl (by rw[slk5];exact dR.refl _),fun hh=>absurd ae hh⟩
 by_cases e6:k=6
 .subst e6;simp only[Int.reduceEq,if_true,if_false,or_true,or_self] at hA h ⊢;simp only[bQ,gH,beq_iff_eq,decide_eq_true_eq] at hA;obtain⟨rfl,rfl,rfl,hx,rfl,hy,aq⟩:=hA;obtain⟨av,rfl,ha⟩:=fT hx;obtain⟨bv,rfl,hb⟩:=fT hy;exact⟨.inr (XU g ha hb h),fun _=>.inl (by rw[slk6 h];exact dR.refl _),fun hh=>absurd ae hh⟩
 by_cases e7:k=7
 .subst e7;simp only[Int.reduceEq,if_true,if_false,or_self] at hA h ⊢;simp only[bQ,gH,beq_iff_eq,beq_eq_false_iff_ne] at hA;obtain⟨rfl,hx,rfl,hy,aK⟩:=hA;obtain⟨av,rfl,ha⟩:=fT hx;obtain⟨bv,rfl,hb⟩:=fT hy;exact⟨.inr (XV g ha hb aa h),fun _=>.inl (by rw[slk7 h];exact dR.refl _),fun hh=>absurd ae hh⟩
 by_cases e8:k=8
 .subst e8;simp only[Int.reduceEq,if_true,if_false,or_self] at hA h ⊢;simp only[bQ,gH,beq_iff_eq,decide_eq_true_eq] at hA;obtain⟨rfl,rfl,rfl,hx,hy,hz,_,_⟩:=hA;obtain⟨av,rfl,ha⟩:=fT hx;obtain⟨bv,rfl,hb⟩:=fT hy;obtain⟨cv,rfl,hc⟩:=fT hz;exact⟨.inr (XX g ha hb hc h),fun _=>slk8 g ha hb hc h,fun hh=>absurd ae hh⟩
 by_cases e9:k=9
 .subst e9;simp only[Int.reduceEq,if_true,if_false,or_false,or_true,or_self] at hA h ⊢;simp only[bQ,gH,beq_iff_eq] at hA;obtain⟨rfl,rfl,rfl,hx,rfl,rfl⟩:=hA;obtain⟨av,rfl,ha⟩:=fT hx;exact⟨.inr (XY g ha h),fun hh=>absurd hh ae,fun _=>slk9 ha (fun l hl hp=>(hgate l hl hp).1) h⟩
 have FM:k=10:=aa;subst FM;simp only[Int.reduceEq,if_true,if_false,or_true,or_self] at hA h ⊢;simp only[bQ,gH,beq_iff_eq] at hA;obtain⟨rfl,rfl,rfl,hx,rfl,rfl⟩:=hA;obtain⟨av,rfl,ha⟩:=fT hx;exact⟨.inr (XN g ha h),fun hh=>absurd hh ae,fun _=>apS ha (fun l hl hp=>(hgate l hl hp).2) h⟩
theorem amV{M:List Let}{e:Int}(he:e≠0)(h:th e=uP F M):False:=by simp only[th,uP,RV.tup.injEq,List.cons.injEq,RV.one.injEq,RC.p.injEq,PV.int.injEq] at h;exact he h.2.1.2
theorem ahz:((List.range 41).all fun F=>(List.range (F+1)).all fun q=>iD (F:Int) (vY q)==0)=true:=ah
theorem ahB{F g:Nat}(hF:F<=40)(hg:g<=F):iD (F:Int) (vY g)=0:=by
 have h:=iC.1 ahz F (fk.2 aa);have:=iC.1 h g (fk.2 aa)
 simpa using this
theorem ahC{i:Nat}:sE (lk F (iZ [])) (lk F (iZ (vY i))) F=0/\xh (iZ [])=xh (iZ (vY i)):=by have e1:iZ []=[]:=rfl;have e2:iZ (vY i)=[(i:Int),(i:Int)]:=rfl;rw[e1,e2];have a2:cV true [(i:Int),(i:Int)]=[]++((i:Int),true)::inv ((i:Int),true)::[]:=rfl;obtain⟨k1,k2⟩:=aeg (a:=cV true []) (b:=cV true [(i:Int),(i:Int)]) (by simp[vT]) (by simp[vT]) (.inr ⟨[],[],((i:Int),true),.inr ⟨by rw[a2];exact dR.refl _,dR.refl _⟩⟩);refine⟨?_,acU af af k1⟩;rw[afn (v:=[]) (w:=[(i:Int),(i:Int)]) (fun j _=>k2 j),aey]
theorem al0(hk:aH S 5 [] (.one (.p (.bool true))))(f:Int)(ls:List Let)(n:Int):aH S 3 [fP f ls,vi n] (rb true):=by
 have ps:=apU (f:=f) (ls:=ls) (n:=24) ae;by_cases hl:(ls.length:Int)<=24
 rotate_left
 .rw[decide_eq_false hl,Bool.false_and] at ps;exact aee hk ps
 by_cases hc:iD f ls=0
 rotate_left
 .rw[beq_eq_false_iff_ne.2 hc,Bool.and_false] at ps;exact aee hk ps
 have hsm:(decide ((ls.length:Int)<=24)&&(iD f ls==0))=true:=by rw[decide_eq_true hl,hc];rfl
 rw[hsm] at ps;by_cases aK:ls=[]
 .subst aK;have hF:0<=f/\f<=40:=by
   unfold iD at hc;rw[if_neg ae] at hc;by_cases hf:f<0\/40<f
   .rw[if_pos hf] at hc;cases hc
   omega
  obtain⟨F,rfl⟩:=oL hF.1;have pall:=afx (F:=F) aa;obtain⟨m,is,hm,pp⟩:=adh (by rw[ms0,cF,vM];omega) (ls:=[]) (aY 24) pall n;cases is with
  |false=>exact aed hk ps pp
  |true=>
   have hm:=hm rfl;obtain⟨i,hi,rfl⟩:=dr.1 hm;have hi:=fk.1 hi;have pa:=agl (F:=F) aa 2 0 (i:Nat) 0 false false 0;have hA:bl F [] 2 0 (i:Nat) 0 false false 0=true:=by unfold bl;simp;omega
   unfold QU at pa;rw[if_pos hA] at pa;exact aef hk (aY 24) (M:=vY i) (show 2<=1000 by decide) aa hc (ahB aa aa) ps pp pa ae ae (fun _=>ahC) (fun h=>absurd ae h)
 obtain⟨F,rfl,g⟩:=Z5 hc aK;obtain⟨ms,ao,pall⟩:=afy g;obtain⟨m,is,hm,pp⟩:=adh ao.1 aa pall n;cases is with
 |false=>exact aed hk ps pp
 |true=>
  obtain⟨k1,k2,M,hM⟩:=ao.2 m (hm rfl);have pa:=agm g m.k m.a m.b m.c m.l m.o m.s;obtain⟨k,a,b,c,l,o,sg⟩:=m;simp only at hM pa pp k1 k2;rcases agi g k a b c l o sg with ⟨e,he,h⟩|⟨M',h,qQ,hA,L,hL,rfl⟩
  .rw[hM] at h;exact(amV he h.symm).elim
  rw[h] at pa;obtain⟨T8,ak8,ak9⟩:=apT g hA hL k1 k2;have hw:dR (cK L) (cV true (iZ (nj L))):=by
   rcases T8 with rfl|T8
   .exact dR.refl _
   exact aje T8
  have hv:=Xy g;obtain⟨gv,_⟩:=Li hc;obtain⟨gw,_⟩:=Li qQ;refine aef hk aa (by rw[ajd];have:=acv hL;omega) g.fing hc qQ ps pp pa k1 k2 (fun h9=>?_) (fun h9=>?_)
  .have hd:=(ak8 h9).post hw;rw[hv] at hd;obtain⟨q1,q2⟩:=aeg (by rw[vT];exact gv.even) (by rw[vT];exact gw.even) hd;exact⟨by rw[afn (fun j _=>q2 j),aey],acU gv.even gw.even q1⟩
  exact aqG (ak9 h9) (by rw[hv];exact dR.refl _) hw
end
end
end Go.Abs
namespace Go.Proofs.YtniibcmpbldbcaaGreatDoor.fnMoveSlack
open Go.Abs Go.ChangeShapes Go.WideShapes Go.ChangeAt Go.RowKit
theorem aaP {P : Program} {N n : Nat} {t : TypeId} {fs : Array Field} {p : List PV} (hu : P.underlying t = some (.struct fs)) (h : j7 P N (n + 1) t p) :
    ∃parts : List (List PV), p = parts.flatten ∧ parts.length = fs.toList.length ∧ ∀(i : Nat) (f : Field) (x : List PV), fs.toList[i]?= some f → parts[i]?= some x → j7 P N n f.type x := by
  simp only [j7, hu] at h;exact h
theorem amn {es : List (List PV)} (h :∀x ∈ es, ∃l : Let, x = l.ps) :∃ls : List Let, es = ls.map Let.ps := by
  induction es with
  | nil => exact ⟨[], rfl⟩
  | cons e es ih =>obtain ⟨l, rfl⟩ := h e (by simp);obtain ⟨ls, rfl⟩ := ih fun x hx => h x (by simp [hx]);exact ⟨l :: ls, rfl⟩
theorem amm {N n : Nat} {p : List PV} (h : j7 S.P N (n + 1 + 1) 65 p) :∃l : Let, p = l.ps := by
  obtain ⟨parts, rfl, hl, hp⟩ := aaP Tryz.underlying65 h;rcases parts with _ | ⟨p0, _ | ⟨p1, _ | ⟨p2, _ | ⟨p3, _ | ⟨p4, _ | ⟨p5, _ | ⟨p6, r⟩⟩⟩⟩⟩⟩⟩ <;> first
    | (simp at hl; done)
    | skip
  obtain ⟨k, rfl, _⟩ := FX Tryz.underlying63 (hp 0 _ _ rfl rfl);obtain ⟨g, rfl, _⟩ := FX Tryz.underlying3 (hp 1 _ _ rfl rfl);obtain ⟨r, rfl, _⟩ := FX Tryz.underlying3 (hp 2 _ _ rfl rfl);obtain ⟨i, rfl, _⟩ := FX Tryz.underlying3 (hp 3 _ _ rfl rfl);obtain ⟨s, rfl, _⟩ := FX Tryz.underlying3 (hp 4 _ _ rfl rfl);obtain ⟨o, rfl⟩ := aj1 Tryz.underlying4 (hp 5 _ _ rfl rfl);exact ⟨⟨k, g, r, i, s, o⟩, rfl⟩
theorem ahL {N n : Nat} {p : List PV} (h : j7 S.P N (n + 1 + 1 + 1 + 1) 24 p) :∃(k : Int) (ls : List Let), p = [.int .i64 k,.sl (ls.map Let.ps)] := by
  obtain ⟨parts, rfl, hl, hp⟩ := aaP Tryz.underlying24 h;rcases parts with _ | ⟨p0, _ | ⟨p1, _ | ⟨p2, r⟩⟩⟩ <;> first
    | (simp at hl; done)
    | skip
  obtain ⟨k, rfl, _⟩ := FX Tryz.underlying3 (hp 0 _ _ rfl rfl);obtain ⟨es, rfl, _, he⟩ := aj2 Tryz.underlying22 (hp 1 _ _ rfl rfl);obtain ⟨ls, rfl⟩ := amn fun x hx => amm (he x hx);exact ⟨k, ls, rfl⟩
theorem law_any (pvss : List (List PV)) (h : NM S.P maxLen 4 Tryz.f3.params.toList pvss) : aH S 3 (BC S.P Tryz.f3.params.toList pvss) (.one (.p (.bool true))) := by
  have hp : Tryz.f3.params.toList = [24, 3] := by rw [Tryz.params3]
  rw [hp] at h ⊢;rcases pvss with _ | ⟨a0, _ | ⟨a1, _ | ⟨a2, z2⟩⟩⟩
  · exact h.elim
  · exact h.2.elim
  · obtain ⟨f0, ls0, rfl⟩ := ahL (n := 0) h.1
    obtain ⟨x1, rfl, _⟩ := FX (n := 3) Tryz.underlying3 h.2.1;have e3 :∀(f : Int) (a : List Let), BB S.P 24 [.int .i64 f,.sl (a.map Let.ps)] = fP f a := fun f a => agq (P := S.P) Tryz.underlying24;have e1 :∀x : Int, BB S.P 3 [.int .i64 x] = vi x := fun x => agp (P := S.P) Tryz.underlying3 (fun fs h => by cases h);simp only [BC, e3, e1];exact al0 alT f0 ls0 x1
  · exact h.2.2.elim
theorem gTab : Tryz.prog.globalNamed Qq = some 0 := by kernel_rfl
theorem ajI : (Tryz.prog.globals[0]?).map (·.type) = some 190 := by kernel_rfl
theorem ahs : Tryz.prog.cellsOf 190 = 20 := by kernel_rfl
theorem aht : Tryz.prog.cellsOf 169 = 1 := by kernel_rfl
/-- what the row's list gives: the table of the powers of ten -/
theorem table {W : World} (h : laidMetH Tryz.prog Rows.moveSlackRow.laid W) : G W := by
  have h1 : laidMet Tryz.prog Rows.moveSlackRow.laid W := h;have h2 := h1.tail.tail;have e : (Rows.laid_internal_strconv_uint64pow10 : DataW Unit) = Lib.tabData .u64 Lib.pow10Tab := by kernel_rfl
  rw [e] at h2;exact Lib.tabIs_of_head (rest := []) gTab ajI Tryz.underlying190 Tryz.underlying169 aht ahs h2
end Go.Proofs.YtniibcmpbldbcaaGreatDoor.fnMoveSlack
namespace Go.Proofs.YtniibcmpbldbcaaGreatDoor.fnMoveSlack
open Go.Abs Go.ChangeShapes Go.WideShapes Go.ChangeAt Go.RowKit
theorem own : ownKnob Tryz.prog.godebug = none := by kernel_rfl
theorem ahX (H : Type) (enc : TypeId×Value → H) (W : World) (base : Nat) (args : Array Value) (ds gs : List (DataW H)) (before : List MemPlace)
    (hval :∀(j : Nat) t v, Tryz.f3.params[j]?= some t → args[j]?= some v → Value.okWide Tryz.prog W .any base t v)
    (hW : DataW.Whole enc Tryz.prog Tryz.f3.params.toList Rows.moveSlackSpec.vars false W args.toList ds gs before) (hL : laidMetH Tryz.prog Rows.moveSlackRow.laid W) :
    Calls Tryz.prog 3 args W fun e W' =>∃v, e =.returned v ∧ Rows.moveSlackSpec.post enc Tryz.prog Tryz.f3 false true false false W args v W' := by
  have hk :∀t ∈ Tryz.f3.params.toList, jZ S.P 4 t = true := by
    rw [Tryz.params3];intro t ht;have e : t = 24 ∨ t = 3 := by simpa using ht
    have k0 : jZ S.P 4 24 = true := by kernel_rfl
    have k1 : jZ S.P 4 3 = true := by kernel_rfl
    rcases e with e | e
    · exact e ▸ k0
    · exact e ▸ k1
  have hfit :∀d ∈ ds, Fits maxLen d := by obtain ⟨p, q, hA, _⟩ := hW;exact (aeZ hk hA).1
  exact alZ S_ok (fun w h => ajS h) (fn := Tryz.f3) (s := Rows.moveSlackSpec) rfl
    (fun H ds hd => by
      rw [Tryz.params3] at hd
      match ds, hd with
      | [d0, d1], _ => rfl) (tb := 4) (by kernel_rfl) Tryz.underlying4 hk law_any hval hW (table hL) hfit

noncomputable def ahr (d : DataW Unit) : Array Value :=
  match d with
  | .agg l => (l.map fun
    | .lit (.int k z) => Value.int k z
    | _ => undef).toArray
  | _ => #[]
noncomputable def UY (d : DataW Unit) : Obj → Obj
  | .cells _ t frozen =>.cells (ahr d) t frozen
  | o => o
noncomputable def UW (os : Os) : World :={ World.holding Tryz.prog os ⟨#[], #[], []⟩ with heap := (((World.holding Tryz.prog os ⟨#[], #[], []⟩).heap.modify 2 (UY Rows.laid_math_bits_deBruijn32tab)).modify 3 (UY Rows.laid_math_bits_deBruijn64tab)).modify 0 (UY Rows.laid_internal_strconv_uint64pow10) }
theorem alU (os : Os) : laidMet Tryz.prog Rows.moveSlackRow.laid ((UW os).forCall (fun _ _ => 0) ⟨#[], #[Value.agg #[.int .i64 0,.slice none 0 0],.int .i64 0], []⟩).memory :=laidMet_of_run' 8 (by kernel_rfl) (by kernel_rfl)
theorem reads (os : Os) {H : Type} (enc : TypeId×Value → H) :∃places, DataW.whole enc Tryz.prog ((UW os).forCall (fun _ _ => 0) ⟨#[], #[Value.agg #[.int .i64 0,.slice none 0 0],.int .i64 0], []⟩).memory Tryz.f3.params.toList Rows.moveSlackSpec.vars false #[Value.agg #[.int .i64 0,.slice none 0 0],.int .i64 0].toList 8 = some ([.agg [.lit (.int .i64 0),.nil],.lit (.int .i64 0)], [], places) :=
  ⟨[], by kernel_rfl⟩

theorem lifted (os : Os) (started : os.Started) (H : Type) (enc : TypeId×Value → H) (F : Stop.Interp) :
    ReturnsInHanded {} Tryz.checked os 3 .any ((OpenSpec.ofChange Rows.moveSlackSpec).preRow enc Tryz.prog Tryz.f3 Rows.moveSlackRow.domain false Rows.moveSlackRow.laid) (((OpenSpec.ofChange Rows.moveSlackSpec).at F).post enc Tryz.prog Tryz.f3 false true false false) := by
  obtain ⟨places, hx⟩ := reads os enc;refine returnsInHanded_of_row (C := Tryz.checked) (s := (OpenSpec.ofChange Rows.moveSlackSpec)) own started (by kernel_rfl) Tryz.func3
    (witness_row_at (enc := enc) (C := Tryz.checked) false (UW os) #[Value.agg #[.int .i64 0,.slice none 0 0],.int .i64 0] rfl (by kernel_rfl) (by kernel_rfl) (by kernel_rfl)
      (OpenSpec.preRow_of_cond 8 hx (by kernel_rfl) (fun k hk => by cases hk) (by kernel_rfl) (alU os))) ?_
  intro W base args ds gs before hval hW _ _ _ hL _ _;exact ahX H enc W base args ds gs before hval hW hL
end Go.Proofs.YtniibcmpbldbcaaGreatDoor.fnMoveSlack
namespace Go.Proofs.YtniibcmpbldbcaaGreatDoor.fnMoveSlack
open Go.Abs Go.ChangeShapes Go.WideShapes Go.ChangeAt Go.RowKit
theorem said : Rows.MoveSlackSaid :=
  OpenClaim.holds_of_cond 3 Tryz.f3 rfl rfl rfl rfl rfl rfl rfl ⟨rfl, rfl, rfl, rfl, rfl⟩ rfl rfl rfl rfl rfl (by kernel_rfl) Tryz.func3 closed
    (of_decide_eq_true (by kernel_rfl)) (by unfold Func.isWrapper; first | (rw [if_pos (by decide +kernel)]; kernel_rfl) | (rw [if_neg (by decide +kernel)]; exact ⟨rfl, rfl⟩))
    (fun os started H enc _ F => by rw [OpenClaim.pre_eq_preRow]; exact lifted os started H enc F)

theorem plain (f : FuncId) (fn : Func) (hf : Tryz.pinned.checked.prog.funcNamed Rows.moveSlackRow.func = some f) (hfn : Tryz.pinned.checked.prog.funcs[f]?= some fn) :
    false = Tryz.pinned.checked.prog.looks [] ∧ ∀(j : Nat) t, fn.params[j]?= some t → Tryz.pinned.checked.prog.wantsStandIn t = false := by
  obtain rfl : f = 3 := Option.some.inj ((show Tryz.prog.funcNamed Rows.moveSlackRow.func = some 3 by kernel_rfl).symm.trans hf) |>.symm
  obtain rfl : fn = Tryz.f3 := (Option.some.inj (Tryz.func3.symm.trans hfn)).symm;refine ⟨by kernel_rfl, ?_⟩
  · intro j t ht
    rw [Tryz.params3] at ht;have e : t = 24 ∨ t = 3 := by simpa using Array.mem_of_getElem? ht
    have k0 : Tryz.prog.wantsStandIn 24 = false := by kernel_rfl
    have k1 : Tryz.prog.wantsStandIn 3 = false := by kernel_rfl
    rcases e with e | e
    · exact e ▸ k0
    · exact e ▸ k1

theorem arP : Rows.moveSlackRow.wfByText (OpenSpec.ofChange Rows.moveSlackSpec) = true := by kernel_rfl
theorem mainIs : Tryz.pinned.checked.prog.mainIs = some ((true, "19703a7ebabdb869e4ac2c0be19380dfdf553b2f40072ac634fddb6e65106d09").1, (true, "19703a7ebabdb869e4ac2c0be19380dfdf553b2f40072ac634fddb6e65106d09").2.toList) := by kernel_rfl
theorem card : Rows.MoveSlackCardSaid :=Claim7.holds_tied_plain_at .later [] _ _ _ _ said (fun _ h => by cases h) arP (fun _ h => by cases h) moveSlack_row_tie rfl ⟨rfl, rfl⟩ mainIs rfl plain goes
end Go.Proofs.YtniibcmpbldbcaaGreatDoor.fnMoveSlack
