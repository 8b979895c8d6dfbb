/-
  The moves of the document and those of the program lead to the same code.
-/
import Derived.Test.YtkdkhndppjfpmaaGreatDoorDc
set_option linter.all false
open List renaming length->I
set_option maxHeartbeats 16000000
namespace Go.Abs
variable{L f:ai}{D:dS}{x j v u:Nat}
def gH(l:cX)(L:ai)(D:dS):Prop:= ∃z:List (aR×Bool),z.map (·.1)=l/\z.map (·.1.l)=L/\z.map (·.2)=D/\ ∀x∈z,(x.1.l.kind==1)->x.2=x.1.d
def gH.fin{l:cX}(h:gH l L D):oF l=lp L D:=by
 obtain⟨z,rfl,rfl,rfl,g⟩:=h;refine arL aP aP λi p hp f=>?_;rw[ig]at hp |-;cases H:z[i]? with
 |none=>rw[H]at hp;cases hp
 |some x=>rw[H]at hp;cases hp;have:=g x (bR H) f;rw[<-this];rfl
def gH.base(f:ai):gH (aQ f) f (fL f):=by
 refine⟨(List.range (I f)).map λi=>(⟨f.getD i mw,km f i⟩,bN f i),?_,?_,?_,?_⟩
 .simp[aQ]
 .rw[nU];apply yV;intro i;rw[ig];by_cases h:i<I f
  .rw[qI h];simp[h]
  rw[pF (by simp;omega),pF J];rfl
 .rw[nU];rfl
 intro x g H;obtain⟨i,h,rfl⟩:=dY.1 g;have h:=gN.1 h;obtain⟨l,hl⟩:=aT h;simp only[dC,hl,kZ]at H |-;unfold km;rw[hl];simp only;unfold aa.aI;rw[H,sf]
def abb{α β:Type}(f:α->β)(l x:List α)(k:Nat):(ie l x k).map f=ie (l.map f) (x.map f) k:=by unfold ie;simp[uJ,u_]
def gH.ins{l x:cX}{X:ai}{E:dS}(h:gH l L D)(H:gH x X E)(k:Nat):gH (fF l x k) (ie L X k) (ie D E k):=by
 obtain⟨z,rfl,rfl,rfl,f⟩:=h;obtain⟨y,rfl,rfl,rfl,g⟩:=H;refine⟨ie z y k,by rw[abb];rfl,by rw[abb],by rw[abb],λx H=>?_⟩;unfold ie at H;rcases iW.1 H with H|H
 .rcases iW.1 H with H|H
  .exact f x (wu H)
  exact g x H
 exact f x (v7 H)
def aci{α β:Type}(f:α->β)(l:List α)(out:aF):(ke l out).map f=ke (l.map f) out:=by
 unfold ke vb;rw[List.map_filterMap,cY];congr 1;funext i;unfold FT;split
 .rfl
 rw[ig]
def gH.wo{l:cX}(h:gH l L D)(out:aF):gH (ke l out) (ke L out) (ke D out):=by obtain⟨z,rfl,rfl,rfl,H⟩:=h;exact⟨ke z out,aci _ _ _,aci _ _ _,aci _ _ _,λx f=>H x (SJ f)⟩
def abc{α β:Type}(f:α->β)(l:List α)(i j:Nat):(gY l i j).map f=gY (l.map f) i j:=by unfold gY;rw[ig,ig];cases l[i]? <;>cases l[j]? <;>simp[wZ]
def aDu{α:Type}{l:List α}{i:Nat}{x:α}(h:x∈gY l i j):x∈l:=by
 unfold gY at h;cases H:l[i]? with
 |none=>rw[H]at h;exact h
 |some a=>
  cases f:l[j]? with
  |none=>rw[H,f]at h;exact h
  |some b=>
   rw[H,f]at h;rcases P8 h with h|rfl
   .rcases P8 h with h|rfl
    .exact h
    exact bR f
   exact bR H
def gH.sw{l:cX}(h:gH l L D)(i j:Nat):gH (gY l i j) (gY L i j) (gY D i j):=by obtain⟨z,rfl,rfl,rfl,H⟩:=h;exact⟨gY z i j,abc _ _ _ _,abc _ _ _ _,abc _ _ _ _,λx f=>H x (aDu f)⟩
def gH.map{l:cX}(h:gH l L D){f:aR->aR}{g:aa->aa}(m:∀p∈l,(f p).l=g p.l/\(f p).d=p.d/\(f p).l.kind=p.l.kind):gH (l.map f) (L.map g) D:=by
 obtain⟨z,rfl,rfl,rfl,A⟩:=h;refine⟨z.map λx=>(f x.1,x.2),?_,?_,?_,?_⟩
 .rw[nU,nU];rfl
 .rw[nU,nU];exact xx λx j=>(m x.1 (dY.2 ⟨x,j,rfl⟩)).1
 .rw[nU];rfl
 intro x j H;obtain⟨y,n,rfl⟩:=dY.1 j;obtain⟨_,u,v⟩:=m y.1 (dY.2 ⟨y,n,rfl⟩);simp only at H |-;rw[v]at H;rw[u];exact A y n H
def gH.set{l:cX}(h:gH l L D){i:Nat}{p q:aR}(hp:l[i]?=some p)(n:q.d=p.d)(u:q.l.kind=p.l.kind):gH (l.set i q) (L.set i q.l) D:=by
 obtain⟨z,rfl,rfl,rfl,m⟩:=h;rw[ig]at hp;cases H:z[i]? with
 |none=>rw[H]at hp;cases hp
 |some x=>
  rw[H]at hp;cases hp;refine⟨z.set i (q,x.2),by rw[wZ],by rw[wZ],?_,λy f g=>?_⟩
  .rw[wZ];apply yV;intro j;rw[mT];by_cases e:i=j
   .subst e;rw[aD rfl,ig,H];have:i<I z:=(cn.1 H).1;simp[this]
   rw[aC e]
  rcases P8 f with f|rfl
  .exact m y f g
  simp only at g |-;rw[n];exact m x (bR H) (by rw[<-u];exact g)
def gH.two{p q:aR}{d e:Bool}(hp:(p.l.kind==1)->d=p.d)(H:(q.l.kind==1)->e=q.d):gH [p,q] [p.l,q.l] [d,e]:=
 ⟨[(p,d),(q,e)],rfl,rfl,rfl,λx h=>by
  simp only[dr,ic,or_false]at h;rcases h with rfl|rfl
  .exact hp
  exact H⟩
def gH.len{l:cX}(h:gH l L D):I L=I l/\I D=I l:=by obtain⟨z,rfl,rfl,rfl,_⟩:=h;simp
def sL(f:ai)(i:Nat):(aV f i).l=aY f i:=by
 by_cases h:i<I f
 .obtain⟨l,hl⟩:=aT h;show((aQ f).getD i _).l=f.getD i mw;rw[dC,dC,oJ hl,hl];rfl
 show((aQ f).getD i _).l=f.getD i mw;rw[dC,dC,pF (by rw[cW];omega),pF J];rfl
def Lx{i:Nat}(h:i<I f):f[i]?=some (aY f i):=by obtain⟨l,hl⟩:=aT h;rw[hl];show some l=some (f.getD i mw);rw[dC,hl];rfl
def auc{α β:Type}{f g:α->Option β}:∀ {l:List α},(∀x∈l,f x=g x)->l.filterMap f=l.filterMap g:=by
 intro l
 induction l with
 |nil=>intro _;rfl
 |cons a l j=>intro h;rw[List.filterMap_cons,List.filterMap_cons,h a aP,j λx H=>h x (by simp[H])]
def akj{i:Nat}(h:i<I f):(aQ f)[i]?=some (aV f i):=by rw[oJ (Lx h)];congr 1;show _=(aQ f).getD i _;rw[dC,oJ (Lx h)];rfl
def BQ{l:aa}(h:l.kind=2):l.aB:=by unfold aa.aB;rw[h];rfl
def Iu{l:aa}(h:l.kind=1):l.aI:=by unfold aa.aI;rw[h];rfl
def ap0{l:aa}(h:l.aB):l.kind=2:=by unfold aa.aB at h;exact eq_of_beq h
def aap{l:aa}(h:l.aI):l.kind=1:=by unfold aa.aI at h;exact eq_of_beq h
def acF(l:cX)(drop:Nat->aR->Bool)(out:aF)(h:∀i p,l[i]?=some p->(drop i p↔i∈out)):oa l drop=ke l out:=by
 unfold oa uY ke vb;refine auc λi H=>?_;unfold LA FT;cases hp:l[i]? with
 |none=>simp
 |some p=>
  simp only;by_cases c:i∈out
  .rw[aD c,aD ((h i p hp).2 c)]
  rw[aC c,aC λd=>c ((h i p hp).1 d)]
def aui{α:Type}{l:List α}{out:aF}{x:α}(h:x∈ke l out):∃i,i∉out/\l[i]?=some x:=by
 unfold ke vb at h;obtain⟨i,_,H⟩:=BC.1 h;unfold FT at H;split at H
 .cases H
 rename_i c;exact⟨i,c,H⟩
section
variable {F:Nat} {f:ai}
def cE.pos(g:cE F f):0<I f:=jH.2 g.ne
def cE.Dm(g:cE F f)(e:Nat):aJ f e<I f:=fk _ g.pos
def cE.Tz(g:cE F f){i:Nat}{l:aa}(hl:f[i]?=some l)(hp:l.aI):tq F f l:=g.ok.ax.fG l (bR hl) hp
def cE.one(g:cE F f){i:Nat}{l m:aa}(hl:f[i]?=some l)(h:f[j]?=some m)(pl:l.aI)(n:m.aI)(u:l.gate=m.gate)(H:l.ay=m.ay):i=j:=g.ok.ax.inj i j l m hl h pl n ((GO (g.Tz hl pl) (g.Tz h n)).2 ⟨u,H⟩)
def axI(g:cE F f){a:Nat}(ha:a<I f):
  (C9 f a).isSome=(yX (aY f a) (aY f (aJ f a))&&(decide ((2:Int)<(an aa.aI f:Nat))||(((an aa.aB f/2:Nat):Int)==0)))/\
  ∀L,C9 f a=some L->gH L ((ke f [a,aJ f a]).map (oc (aY f a).gate (if(aY f (aJ f a)).ay<(aY f a).ay then(aY f (aJ f a)).ay else(aY f a).ay) 2)) (ke (fL f) [a,aJ f a]):=by
 have H:=g.Dm a;have Y:=sL f a;have O:=sL f (aJ f a);unfold C9;simp only
 change ((if((aV f a).l.kind==1)&&(((aV f (aJ f a)).l.kind==1)&&(((aV f a).l.gate==(aV f (aJ f a)).l.gate)&&((rA (aV f a).l.ay (aV f (aJ f a)).l.ay-xH (aV f a).l.ay (aV f (aJ f a)).l.ay==1)&& !(decide (an aa.aI f<=2)&&decide (0<an aa.aB f/2)))))then some (fQ (oa (aQ f) λk _=>decide (k=a)||decide (k=aJ f a)) (aV f a).l.gate (rA (aV f a).l.ay (aV f (aJ f a)).l.ay) (-2))else none).isSome=_/\ ∀L,(if((aV f a).l.kind==1)&&(((aV f (aJ f a)).l.kind==1)&&(((aV f a).l.gate==(aV f (aJ f a)).l.gate)&&((rA (aV f a).l.ay (aV f (aJ f a)).l.ay-xH (aV f a).l.ay (aV f (aJ f a)).l.ay==1)&& !(decide (an aa.aI f<=2)&&decide (0<an aa.aB f/2)))))then some (fQ (oa (aQ f) λk _=>decide (k=a)||decide (k=aJ f a)) (aV f a).l.gate (rA (aV f a).l.ay (aV f (aJ f a)).l.ay) (-2))else none)=some L->_)
 rw[Y,O];have N:=Lx ha;have E:=Lx H;generalize hx:aY f a=x at*;generalize hy:aY f (aJ f a)=y at*;have JM:(rA x.ay y.ay-xH x.ay y.ay==1)=((x.ay==y.ay+1)||(y.ay==x.ay+1)):=by rw[pS];unfold rA xH;simp only[dk,pB];split<;>split<;>omega
 have T:(!(decide (an aa.aI f<=2)&&decide (0<an aa.aB f/2)))=(decide ((2:Int)<(an aa.aI f:Nat))||(((an aa.aB f/2:Nat):Int)==0)):=by rw[pS];simp only[jf,Bool.and_eq_false_iff,decide_eq_false_iff_not,pB,iI,dk];omega
 rw[JM,T];have Z:((x.kind==1)&&((y.kind==1)&&((x.gate==y.gate)&&(((x.ay==y.ay+1)||(y.ay==x.ay+1))&&(decide ((2:Int)<(an aa.aI f:Nat))||(((an aa.aB f/2:Nat):Int)==0))))))=(yX x y&&(decide ((2:Int)<(an aa.aI f:Nat))||(((an aa.aB f/2:Nat):Int)==0))):=by unfold yX;simp only[MP]
 rw[Z];refine⟨by split<;>simp_all,λL u=>?_⟩;split at u
 .rename_i A;cases u;rw[c6]at A;have H:=A.1;unfold yX at H;simp only[c6,pB,dk]at H;obtain⟨D,X,M,k4⟩:=H;rw[acF (aQ f) (λk _=>decide (k=a)||decide (k=aJ f a)) [a,aJ f a] (λi p _=>aP)];refine((gH.base f).wo _).map λp hp=>?_;obtain⟨i,v,n⟩:=aui hp;simp only[dr,ic,or_false,za]at v;have z:i<I f:=by have:=(cn.1 n).1;rwa[cW]at this
  have B:f[i]?=some p.l:=by rw[oJ (Lx z)]at n;cases n;exact Lx z
  unfold kX oc;by_cases j:(p.l.kind==1)
  .rw[j];by_cases m:(p.l.gate==x.gate)
   .rw[m];simp only[sf,iI];have R:p.l.ay≠x.ay:=λe=>v.1 (g.one B N j (by unfold aa.aI;simp[D]) (eq_of_beq m) e);have Q:p.l.ay≠y.ay:=λe=>v.2 (g.one B E j (by unfold aa.aI;simp[X]) (by rw[eq_of_beq m,M]) e);have:(rA x.ay y.ay<p.l.ay)↔((if y.ay<x.ay then y.ay else x.ay)<p.l.ay):=by
     unfold rA;split<;>split<;>omega
    by_cases c9:(if y.ay<x.ay then y.ay else x.ay)<p.l.ay
    .rw[aD (this.2 c9),aD c9];exact⟨rfl,rfl,rfl⟩
    rw[aC (λh=>c9 (this.1 h)),aC c9];exact⟨rfl,rfl,rfl⟩
   rw[aa0.2 m];exact⟨rfl,rfl,rfl⟩
  rw[aa0.2 j];exact⟨rfl,rfl,rfl⟩
 cases u
end
section
variable {F:Nat} {f:ai}
def cE.two(g:cE F f):2<=I f:=by have h:=Ru g.ok;obtain⟨l,hl,hp⟩:=g.first;have H:0<an aa.aI f:=At.2 ⟨l,bR hl,hp⟩;have j:=g.even;omega
def cE.M0(g:cE F f){a:Nat}(h:a<I f):a≠aJ f a:=Le g.two h
def cE.three(g:cE F f){i k:Nat}{l m x:aa}(H:f[i]?=some l)(v:f[j]?=some m)(n:f[k]?=some x)(u:l.aB)(y:m.aB)(z:x.aB)(E:l.id=m.id)(B:l.id=x.id)(D:i≠j):k=i\/k=j:=by
 have hp:=g.ids.2;by_cases A:k=i
 .exact .inl A
 by_cases h:k=j
 .exact .inr h
 have M:=(hp i j l m H v u y E D).1;have L:=(hp i k l x H n u z B λe=>A e.symm).1;have O:=(hp j k m x v n y z (E▸B) λe=>h e.symm).1;revert M L O;cases l.over<;>cases m.over<;>cases x.over<;>simp
def an3(ids:dd)(p:aR):(qh ids p).l=oL ids p.l/\(qh ids p).d=p.d/\(qh ids p).l.kind=p.l.kind:=by
 unfold qh oL;split
 .refine⟨?_,rfl,rfl⟩;unfold mr AQ;simp only[lA,P4]
 exact⟨rfl,rfl,rfl⟩
def aAk(g:cE F f){a:Nat}(h:a<I f):
  (Cr f a).isSome=(rS f a&&((aY f a).id==(aY f (aJ f a)).id))/\
  ∀L,Cr f a=some L->gH L ((ke f [a,aJ f a]).map (oL [(aY f a).id])) (ke (fL f) [a,aJ f a]):=by
 have u:=g.Dm a;have N:=g.M0 h;have E:=jx h;have z:=jx u;unfold Cr rS;simp only;change ((if((aV f a).l.kind==2)&&(((aV f (aJ f a)).l.kind==2)&&((aV f a).l.id==(aV f (aJ f a)).l.id))then some (FV (aQ f) [(aV f a).l.id])else none).isSome=_/\ ∀L,(if((aV f a).l.kind==2)&&(((aV f (aJ f a)).l.kind==2)&&((aV f a).l.id==(aV f (aJ f a)).l.id))then some (FV (aQ f) [(aV f a).l.id])else none)=some L->_);rw[sL,sL,<-MP];refine⟨by split<;>simp_all,λL H=>?_⟩;split at H
 .rename_i y;cases H;simp only[c6,dk]at y;obtain⟨⟨m,v⟩,x⟩:=y;have A:oa (aQ f) (rW [(aY f a).id])=ke (aQ f) [a,aJ f a]:=by
   refine acF _ _ _ λi p hp=>?_;have n:i<I f:=by have:=(cn.1 hp).1;rwa[cW]at this
   have B:f[i]?=some p.l:=by rw[oJ (jx n)]at hp;cases hp;exact jx n
   unfold rW;simp only[c6,dk,OC,dr,ic,or_false,iI];constructor
   .rintro ⟨Q,M⟩
    exact g.three E z B (BQ m) (BQ v) (BQ Q) x M.symm N
   have get:∀j,j<I f->i=j->p.l=aY f j:=λj D e=>by subst e;rw[jx D]at B;exact(rz B).symm
   rintro(e|e)
   .rw[get _ h e];exact⟨m,rfl⟩
   rw[get _ u e];exact⟨v,x.symm⟩
  show gH ((oa (aQ f) (rW [(aY f a).id])).map (qh [(aY f a).id])) _ _;rw[A];exact((gH.base f).wo _).map λp _=>an3 _ p
 cases H
def awX(a:Nat)(sg:Int)(o:Bool):gH (Fg f a sg o) (ie f [⟨2,0,0,(an aa.aB f/2:Nat)+1,sg,o⟩,⟨2,0,0,(an aa.aB f/2:Nat)+1,sg,!o⟩] a) (ie (fL f) [false,!false] a):=by unfold Fg;refine(gH.base f).ins ?_ a;exact gH.two (p:=⟨⟨2,0,0,((an aa.aB f/2+1:Nat):Int),sg,o⟩,false⟩) (q:=⟨⟨2,0,0,((an aa.aB f/2+1:Nat):Int),sg,!o⟩,false⟩) (by intro h;cases h) (by intro h;cases h)
def WI(f:ai)(e:Nat)(ov:Bool):kR f e ov=(rS f e&&(((aY f e).over==ov)&&((aY f (aJ f e)).over==ov))):=by unfold kR rS;rw[sL,sL,MP]
def ayF(g:cE F f){a b:Nat}(D:a<I f)(M:b<I f):
  (Ct F f a b).isSome=I4 F f a b/\
  ∀L,Ct F f a b=some L->gH L ((ke f [a,aJ f a,b,aJ f b]).map (oL [(aY f a).id,(aY f (aJ f a)).id])) (ke (fL f) [a,aJ f a,b,aJ f b]):=by
 have hn:=g.Dm a;have hm:=g.Dm b;have na:=g.M0 D;have nb:=g.M0 M;have N:=jx D;have H:=jx hn;have T:=jx M;have A:=jx hm;have CG:(((kR f a true&&kR f b false)||(kR f a false&&kR f b true))&&(!((aV f a).l.id==(aV f (aJ f a)).l.id)&&
  (((((aV f b).l.id==(aV f a).l.id)&&((aV f (aJ f b)).l.id==(aV f (aJ f a)).l.id))||(((aV f b).l.id==(aV f (aJ f a)).l.id)&&((aV f (aJ f b)).l.id==(aV f a).l.id)))&&
  (!((a+2)%I f==b)&&(!((b+2)%I f==a)&&r4 F f 0 [a,b] a)))))=I4 F f a b:=by
  rw[acI rfl D];unfold I4;simp only[WI,sL];have e1:((a+2)%I f==b)=((((a+2)%I f:Nat):Int)==(b:Int)):=by rw[pS];simp only[dk];omega
  have e2:((b+2)%I f==a)=((((b+2)%I f:Nat):Int)==(a:Int)):=by rw[pS];simp only[dk];omega
  rw[e1,e2];have s1:((aY f b).id==(aY f a).id)=((aY f a).id==(aY f b).id):=by rw[pS];simp only[dk];exact eq_comm
  have s2:((aY f (aJ f b)).id==(aY f (aJ f a)).id)=((aY f (aJ f a)).id==(aY f (aJ f b)).id):=by rw[pS];simp only[dk];exact eq_comm
  have xQ:((aY f b).id==(aY f (aJ f a)).id)=((aY f (aJ f a)).id==(aY f b).id):=by rw[pS];simp only[dk];exact eq_comm
  have xW:((aY f (aJ f b)).id==(aY f a).id)=((aY f a).id==(aY f (aJ f b)).id):=by rw[pS];simp only[dk];exact eq_comm
  rw[s1,s2,xQ,xW];generalize rS f a=p1;generalize rS f b=p2;generalize((aY f a).id==(aY f (aJ f a)).id)=p3;generalize((((a+2)%I f:Nat):Int)==(b:Int))=p4;generalize((((b+2)%I f:Nat):Int)==(a:Int))=p5;generalize((aY f a).id==(aY f b).id)=p6;generalize((aY f (aJ f a)).id==(aY f (aJ f b)).id)=p7;generalize((aY f (aJ f a)).id==(aY f b).id)=p8;generalize((aY f a).id==(aY f (aJ f b)).id)=p9;generalize vF F f 0 [a,b]=ac;generalize(aY f a).over=o1;generalize(aY f b).over=o2;generalize(aY f (aJ f a)).over=o3;generalize(aY f (aJ f b)).over=o4;cases p1<;>cases p2<;>cases p3<;>simp
  all_goals(cases o1<;>cases o2<;>cases o3<;>cases o4<;>simp)
  all_goals(cases p6<;>cases p7<;>cases p8<;>cases p9<;>cases p4<;>cases p5<;>simp)
 unfold Ct;rw[CG];refine⟨by split<;>simp_all,λL R=>?_⟩;split at R
 .rename_i X;cases R;unfold I4 at X;simp only[c6,pB,jf,dk,sK]at X;obtain⟨n,u,c9,c4,eT,fB,c7,Z,z,_⟩:=X;unfold rS at n u;simp only[c6,dk]at n u;have Y:(aY f a).aB:=BQ n.1;have x:(aY f (aJ f a)).aB:=BQ n.2;have kb:(aY f b).aB:=BQ u.1;have v:(aY f (aJ f b)).aB:=BQ u.2;have hk:oa (aQ f) (rW [(aV f a).l.id,(aV f (aJ f a)).l.id])=ke (aQ f) [a,aJ f a,b,aJ f b]:=by
   rw[sL,sL];refine acF _ _ _ λi p hp=>?_;have lZ:i<I f:=by have:=(cn.1 hp).1;rwa[cW]at this
   have B:f[i]?=some p.l:=by rw[oJ (jx lZ)]at hp;cases hp;exact jx lZ
   have ab:a≠b:=λe=>z (by rw[e]);unfold rW;simp only[c6,dk,OC,dr,ic,or_false,iI];constructor
   .rintro ⟨q1,Q⟩
    have y:p.l.aB:=BQ q1;have over:∀ {i j:Nat}{l m:aa},f[i]?=some l->f[j]?=some m->l.over≠m.over->i≠j:=λh k ho e=>by subst e;rw[h]at k;cases k;exact ho rfl
    rcases Q with Q|Q<;>rcases fB with⟨O,E⟩|⟨O,E⟩
    .rcases g.three N T B Y kb y O Q.symm ab with e|e<;>subst e<;>simp
    .rcases g.three N A B Y v y O Q.symm (over N A (by rw[<-Z];exact z))with e|e<;>subst e<;>simp
    .rcases g.three H A B x v y E Q.symm (over H A (by rw[<-Z,<-c7];exact z))with e|e<;>subst e<;>simp
    rcases g.three H T B x kb y E Q.symm (over H T (by rw[<-c7];exact z))with e|e<;>subst e<;>simp
   have get:∀j,j<I f->i=j->p.l=aY f j:=λj hj e=>by subst e;rw[jx hj]at B;exact(rz B).symm
   rintro(e|e|e|e)
   .rw[get _ D e];exact⟨n.1,.inl rfl⟩
   .rw[get _ hn e];exact⟨n.2,.inr rfl⟩
   .rw[get _ M e];exact⟨u.1,fB.elim (λd=>.inl d.1.symm) (λd=>.inr d.2.symm)⟩
   rw[get _ hm e];exact⟨u.2,fB.elim (λd=>.inr d.2.symm) (λd=>.inl d.1.symm)⟩
  show gH ((oa (aQ f) (rW [(aV f a).l.id,(aV f (aJ f a)).l.id])).map (qh [(aV f a).l.id,(aV f (aJ f a)).l.id])) _ _;rw[hk,sL,sL];exact((gH.base f).wo _).map λp _=>an3 _ p
 cases R
end
def adk:∀(L M:dd),L.Nodup->(∀x∈L,x∈M)->I L<=I M:=by
 intro L
 induction L with
 |nil=>intro M _ _;exact cG _
 |cons a L f=>intro M m ae;obtain⟨j,g⟩:=nR.1 m;have h:=ae a aP;have:=f (M.erase a) g λx H=>(QL (by rintro rfl;exact j H)).2 (ae x (by simp[H]));rw[No h]at this;have:0<I M:=LS h;simp only[dW];omega
def al5:∀l:dd,(mM l).Nodup:=by
 intro l
 induction l with
 |nil=>exact qF
 |cons a l f=>
  unfold mM;split
  .exact f
  rename_i h;exact nR.2 ⟨λH=>h (IW.1 H),f⟩
def aqb{l:dd}:I (mM l)=I l↔l.Nodup:=by
 induction l with
 |nil=>simp[mM]
 |cons a l f=>
  have H:I (mM l)<=I l:=adk _ _ (al5 l) λx g=>IW.1 g;unfold mM;rw[nR];split
  .rename_i h;constructor
   .intro e;simp only[dW]at e;omega
   intro e;exact absurd h e.1
  rename_i h;simp only[dW];rw[<-f];exact⟨λe=>⟨h,J⟩,λe=>J⟩
def agp{l:dd}{x:Int}(h:l.Nodup):(jn l x).Nodup:=by
 unfold jn;split
 .exact h
 rename_i g;rw[Cc];exact⟨h,aP,λa f b H e=>g (by simp at H;subst H;subst e;exact f)⟩
def afL{l:dd}{x y:Int}:y∈jn l x↔y∈l\/y=x:=by
 unfold jn;split
 .rename_i H;exact⟨.inl,λh=>h.elim id λe=>e▸H⟩
 simp
section
variable {F:Nat} {f:ai}
def atG{l:dd}(h:l.Nodup)(e:Nat):(B2 f l e).Nodup:=agp (agp h)
def awK(E:aF):∀l:dd,l.Nodup->(E.foldl (B2 f) l).Nodup/\ ∀y,y∈E.foldl (B2 f) l↔y∈l\/y∈E.flatMap λe:Nat=>[(aY f e).id,(aY f (aJ f e)).id]:=by
 induction E with
 |nil=>intro l h;exact⟨h,λy=>aP⟩
 |cons e E g=>
  intro l h;obtain⟨j,H⟩:=g (B2 f l e) (atG h e);refine⟨j,λy=>?_⟩;rw[sh,H];unfold B2;rw[afL,afL,Jm,iW];simp only[dr,ic,or_false];constructor
  .rintro (((h|h)|h)|h)
   .exact .inl h
   .exact .inr (.inl (.inl h))
   .exact .inr (.inl (.inr h))
   exact .inr (.inr h)
  rintro(h|(h|h)|h)
  .exact .inl (.inl (.inl h))
  .exact .inl (.inl (.inr h))
  .exact .inl (.inr h)
  exact .inr h
def arc(E:aF):I (mM (uS f E))=I (mS f E):=by
 obtain⟨j,g⟩:=awK (f:=f) E [] qF;have H:∀y,y∈mM (uS f E)↔y∈mS f E:=λy=>by rw[IW];unfold mS;rw[g];unfold uS;simp only[sL,ic,false_or]
 have a:=adk _ _ (al5 _) λx h=>(H x).1 h;have b:=adk _ _ j λx h=>(H x).2 h;exact acf a b
def MM{e:Nat}(h:rS f e):kR f e true=(FZ f e==2)/\kR f e false=(FZ f e==0):=by rw[WI,WI,h];unfold FZ;cases(aY f e).over<;>cases(aY f (aJ f e)).over<;>exact⟨rfl,rfl⟩
def ahQ(e:Nat):yY f e=rS f e:=by unfold yY rS;rw[sL,sL]
def apH(g:cE F f){a b c:Nat}(n:a<I f)(y:b<I f)(A:c<I f):HV F f a b c=ER F f [a,b,c]:=by
 have N:=g.M0 n;have L:=g.M0 y;have R:=g.M0 A;unfold HV ER;rw[acI rfl n,arc];have x:(I (mM (s3 f [a,b,c]))==6)=decide ((s3 f [a,b,c]).Nodup):=by rw[pS];simp only[dk,iI];rw[<-aqb];unfold s3;simp
 rw[x];have E:(List.range [a,b,c].length).all (AX f [a,b,c])=([a,b,c].all (yY f)&&decide ((s3 f [a,b,c]).Nodup)):=by
  have:List.range [a,b,c].length=[0,1,2]:=rfl;rw[this];unfold AX vl s3;simp only[vg,yF,List.getElem?_cons_zero,List.getElem?_cons_succ,Fo,Od,Jm,List.flatMap_nil,Bv,iZ,ahQ];rw[pS];simp only[c6,jf,decide_eq_false_iff_not,iI,dr,ic,or_false,nR,za,not_false_eq_true,qF,and_true];constructor
  .rintro ⟨H,⟨j,D,O⟩,m,M,T⟩
   refine⟨⟨H,j,m⟩,?_⟩;omega
  rintro⟨⟨H,j,m⟩,h⟩
  refine⟨H,⟨j,?_,?_⟩,m,?_,?_⟩<;>omega
 rw[E];cases H:[a,b,c].all (yY f)with
 |false=>rfl
 |true=>
  simp only[vg,yF,AH,c6,ahQ]at H;obtain⟨Q,v,u⟩:=H;have z:([a,b,c].any (kR f · true))=decide ((2:Int)∈r9 f [a,b,c]):=by rw[pS];unfold r9;simp only[Q1,UQ,Sx,(MM Q).1,(MM v).1,(MM u).1,pB,dk,iI,eJ,lr,dr,ic,or_false];omega
  have B:([a,b,c].any (kR f · false))=decide ((0:Int)∈r9 f [a,b,c]):=by rw[pS];unfold r9;simp only[Q1,UQ,Sx,(MM Q).2,(MM v).2,(MM u).2,pB,dk,iI,eJ,lr,dr,ic,or_false];omega
  rw[z,B];simp only[sf]
def NN(g:cE F f){l:cX}(hl:I l=I f){e:Nat}(H:e<I f):jU f l e=gY l e (aJ f e):=by have j:=g.Dm e;obtain⟨p,hp⟩:=aT (L:=l) (k:=e) J;obtain⟨q,h⟩:=aT (L:=l) (k:=aJ f e) J;unfold jU gY;rw[hp,h];simp only[dC,hp,h,kZ]
def aoD(g:cE F f){a b c:Nat}(H:a<I f)(j:b<I f)(m:c<I f):
  (zE F f a b c).isSome=ER F f [a,b,c]/\
  ∀L,zE F f a b c=some L->gH L (gY (gY (gY f a (aJ f a)) b (aJ f b)) c (aJ f c)) (gY (gY (gY (fL f) a (aJ f a)) b (aJ f b)) c (aJ f c)):=by
 unfold zE;rw[apH g H j m];refine⟨by split<;>simp_all,λL h=>?_⟩;split at h
 .cases h;unfold kJ;simp only[sh,IV];rw[NN g (cW f) H,NN g (by rw[xX,cW]) j,NN g (by rw[xX,xX,cW]) m];exact(((gH.base f).sw _ _).sw _ _).sw _ _
 cases h
def aAP(g A D:Int)(p:aR):(kX g A D p).l=oc g A (-D) p.l/\(kX g A D p).d=p.d/\(kX g A D p).l.kind=p.l.kind:=by
 unfold kX oc;split
 .exact⟨by simp only[Int.sub_neg],rfl,rfl⟩
 exact⟨rfl,rfl,rfl⟩
end
section
variable {F:Nat} {f:ai}
def Sj{d e:Nat}(H:d<2*I f)(m:e<2*I f):ob F f d=ob F f e↔d∈(dF F f e).bQ:=by
 obtain⟨i,i1,i2,i3⟩:=B6 (F:=F) H;obtain⟨j,g,v,u⟩:=B6 (F:=F) m;have n:ob F f d=i:=by show(kO F f).getD d 0=i;rw[dC,i3];rfl
 have E:ob F f e=j:=by show(kO F f).getD e 0=j;rw[dC,u];rfl
 rw[n,E];constructor
 .rintro rfl
  rw[i1]at g;rw[<-rz g];exact i2
 intro h;exact Ro i1 g i2 h
def apU(g:cE F f){m:dt}(n:m∈dG F f){e:Nat}(H:2*e∈m.bQ)(h:2*e+1∈m.bQ):False:=by
 obtain⟨w,j,rfl⟩:=dY.1 n;rw[AB]at H h;obtain⟨A,u⟩:=rY.1 H;obtain⟨B,_⟩:=rY.1 h;have:2*e<2*I f:=by simpa using u
 exact auX g (x:=2*e) (by unfold bt;omega) j A (by rw[tp];exact B)
def Ws(g:cE F f){a b:Nat}(n:a≠b)(l o j O:Bool)(ae:qd F f a b l=j):
  ∀L,jm f a b l o j O=some L->gH L (ES F f a b l o) (Eh f a b):=by
 intro L H;unfold jm at H;split at H
 .cases H
 simp only[iS]at H;have m:(if o==(j==l)then 1 else -1:Int)=qo (qd F f a b l) l o:=by rw[ae];unfold qo;cases o<;>cases j<;>cases l<;>rfl
 rw[m]at H;subst H;have r1:gH (sV (an aa.aB f/2) (qo (qd F f a b l) l o) o) [I8 (yk f) (qo (qd F f a b l) l o) o,I3 (yk f) (qo (qd F f a b l) l o) o] [false,true]:=gH.two (p:=mI (an aa.aB f/2) 1 (qo (qd F f a b l) l o) o) (q:=mI (an aa.aB f/2) 2 (-(qo (qd F f a b l) l o)) o) (by intro h;cases h) (by intro h;cases h)
 have R:gH (qu (an aa.aB f/2) (qo (qd F f a b l) l o) o j) (if qd F f a b l then [I3 (yk f) (qo (qd F f a b l) l o) !o,I8 (yk f) (qo (qd F f a b l) l o) !o]else [I8 (yk f) (qo (qd F f a b l) l o) !o,I3 (yk f) (qo (qd F f a b l) l o) !o]) [false,true]:=by
  rw[ae];unfold qu;cases j with
  |true=>simp only[if_true];exact gH.two (p:=mI (an aa.aB f/2) 2 (-(qo true l o)) (!o)) (q:=mI (an aa.aB f/2) 1 (qo true l o) (!o)) (by intro h;cases h) (by intro h;cases h)
  |false=>simp only[eI,if_false];exact gH.two (p:=mI (an aa.aB f/2) 1 (qo false l o) (!o)) (q:=mI (an aa.aB f/2) 2 (-(qo false l o)) (!o)) (by intro h;cases h) (by intro h;cases h)
 unfold ES Eh LU;by_cases c:a<b
 .rw[aD c,aC (show¬b<a by omega),aC (show¬b<a by omega)];exact((gH.base f).ins R b).ins r1 a
 rw[aC c,aD (show b<a by omega),aD (show b<a by omega)];exact((gH.base f).ins r1 a).ins R b
def awS(a b:Nat):((a:Int)==(b:Int))=decide (a=b):=by rw[pS];simp only[dk,iI];omega
def ape(g:cE F f){a b:Nat}(z:a<I f)(y:b<I f)(v:a≠b)(l o:Bool):
  (Ch F f a b l o).isSome=(decide (2*b∈(dF F f (if l then 2*a else 2*a+1)).bQ)||decide (2*b+1∈(dF F f (if l then 2*a else 2*a+1)).bQ))/\
  ∀L,Ch F f a b l o=some L->gH L (ES F f a b l o) (Eh f a b):=by
 have m:∀j O,(jm f a b l o j O).isSome=(j||O):=λj O=>by unfold jm;cases j<;>cases O<;>rfl
 unfold Ch;simp only[awS];cases l with
 |true=>
  have E:decide (ob F f (2*b)=ob F f (2*a))=decide (2*b∈(dF F f (2*a)).bQ):=by rw[pS];simp only[iI];exact Sj J J
  have x:decide (ob F f (2*b+1)=ob F f (2*a))=decide (2*b+1∈(dF F f (2*a)).bQ):=by rw[pS];simp only[iI];exact Sj J J
  simp only[if_true];rw[E,x];refine⟨m _ _,Ws g v true o _ _ ?_⟩;unfold qd;simp only[if_true];cases decide (2*b∈(dF F f (2*a)).bQ)<;>rfl
 |false=>
  have E:decide (ob F f (2*b+1)=ob F f (2*a+1))=decide (2*b+1∈(dF F f (2*a+1)).bQ):=by rw[pS];simp only[iI];exact Sj J J
  have x:decide (ob F f (2*b)=ob F f (2*a+1))=decide (2*b∈(dF F f (2*a+1)).bQ):=by rw[pS];simp only[iI];exact Sj J J
  simp only[eI,if_false];rw[E,x];refine⟨by rw[m,Bool.or_comm],λL H=>?_⟩;by_cases u:2*b∈(dF F f (2*a+1)).bQ
  .have n:2*b+1∉(dF F f (2*a+1)).bQ:=λh=>apU g (Gr J) u h;refine Ws g v false o _ _ ?_ L H;unfold qd;simp only[eI,if_false];simp[u,n]
  by_cases n:2*b+1∈(dF F f (2*a+1)).bQ
  .refine Ws g v false o _ _ ?_ L H;unfold qd;simp only[eI,if_false];simp[u,n]
  have:=m (decide (2*b+1∈(dF F f (2*a+1)).bQ)) (decide (2*b∈(dF F f (2*a+1)).bQ));rw[H]at this;simp[u,n]at this
end
section
variable {F:Nat} {f:ai}
def an1:∀(w:aF) (g:dt),I g.places<=(w.foldl (dt.add F f) g).places.length/\ ∀x∈w,2*I f<=x->I (pI F f ((x-2*I f)/2))<=(w.foldl (dt.add F f) g).places.length:=by
 intro w
 induction w with
 |nil=>intro g;exact⟨c3 _,λx u=>nomatch u⟩
 |cons x w j=>
  intro g;rw[sh];obtain⟨H,m⟩:=j (dt.add F f g x);have n:I g.places<=(dt.add F f g x).places.length:=by
   unfold dt.add;split
   .exact c3 _
   simp only[gT];omega
  refine⟨ny n H,λy h hl=>?_⟩;rcases dr.1 h with rfl|h
  .refine ny ?_ H;unfold dt.add;rw[aC J];simp only[gT];split<;>(try rw[jl])<;>omega
  exact m y h hl
def aoN(ok:gh F f){l:aa}(hl:f[v]?=some l)(hp:l.aI)(g:Bool):∃k,k<I (aE f)/\
  ((bz f (jF (I f) v g)=2*I f+2*k/\(aE f).getD k 0=v)\/(bz f (jF (I f) v g)=2*I f+2*k+1/\(aE f).getD ((k+1)%I (aE f)) 0=v)):=by
 obtain⟨H,h⟩:=Fq ok hl hp;rw[GI hl hp];by_cases c:(bN f v==g)
 .rw[aD c];exact⟨(aE f).idxOf v,H,.inl ⟨rfl,h⟩⟩
 rw[aC c];refine⟨((aE f).idxOf v+I (aE f)-1)%I (aE f),fk _ J,.inr ⟨rfl,?_⟩⟩;rw[xU H,h]
def apj(ok:gh F f){k:Nat}(M:k+1<I (aE f))(h:(aE f).getD k 0=u)(y:(aE f).getD (k+1) 0=v){l m:aa}(hl:f[u]?=some l)(H:f[v]?=some m)
  (pl:l.aI) (L:m.aI) (Q:m.gate<=l.gate):l.gate=m.gate/\m.ay=l.ay+1:=by
 obtain⟨X,B⟩:=aT (L:=aE f) (k:=k) J;obtain⟨O,z⟩:=aT M;rw[dC,B,kZ]at h;rw[dC,z,kZ]at y;subst h y;obtain⟨T,n,_,E⟩:=yz ok.ax B;obtain⟨R,x,_,N⟩:=yz ok.ax z;rw[hl]at n;cases n;rw[H]at x;cases x;have g:=ok.ax.fG l (bR hl) pl;have j:=ok.ax.fG m (bR H) L;have A:=(ahd g j).2 J;unfold Fk at A;simp only[pB,c6,iI,dk]at A;have D:l.gate=m.gate:=J;refine⟨D,?_⟩;unfold fD at E N;rw[D]at E;have:=g.r0;have:=j.r0;omega
end
section
variable {F:Nat} {f:ai}
def au2:∀(w:aF) (g:dt),(w.foldl (dt.add F f) g).eF=g.eF:=by
 intro w
 induction w with
 |nil=>intro g;rfl
 |cons x w h=>intro g;rw[sh,h];unfold dt.add;split<;>rfl
def ahT(g:cE F f){d:Nat}(h:d<2*I f):(dF F f d).eF=bN f (d/2+1):=by
 obtain⟨j,_,u,_⟩:=B6 (F:=F) h;obtain⟨w,H,m⟩:=dY.1 (Gr (F:=F) h);rw[<-m,AB]at u;rw[<-m];have x:=(rY.1 u).1;obtain⟨⟨e,t,n,eh⟩,_,_⟩:=yh g.ok w H;unfold jg;rw[au2];show bN f (w.headD 0/2+1)=_;have v:w.headD 0=e:=by rw[n];rfl
 rw[v];exact abz g H (by rw[n];exact EG) x eh h
def aqV(g:cE F f){a b c:Nat}(v:a<I f):
  (wS F f a b c).isSome=(decide ((b,c)∈(dF F f (2*a)).places)||decide ((b,c)∈(dF F f (2*a+1)).places))/\
  ∀L,wS F f a b c=some L->gH L (DS F f a b c) (DL f a):=by
 have A:=ahT (F:=F) g (d:=2*a) J;have u:=ahT (F:=F) g (d:=2*a+1) J;rw[show 2*a/2=a by omega]at A;rw[show(2*a+1)/2=a by omega]at u;have m:gH (fQ (aQ f) b c 2) (f.map (oc b c (-2))) (fL f):=(gH.base f).map λp _=>aAP _ _ _ p;have h:∀d,gH [oT b ((c+1:Nat):Int) d,oT b ((c+2:Nat):Int) (!d)] [tc b c 1,tc b c 2] [d,!d]:=λd=>gH.two (p:=oT b ((c+1:Nat):Int) d) (q:=oT b ((c+2:Nat):Int) (!d)) (λ_=>rfl) (λ_=>rfl);have R:∀d,gH [oT b ((c+2:Nat):Int) d,oT b ((c+1:Nat):Int) (!d)] [tc b c 2,tc b c 1] [d,!d]:=λd=>gH.two (p:=oT b ((c+2:Nat):Int) d) (q:=oT b ((c+1:Nat):Int) (!d)) (λ_=>rfl) (λ_=>rfl);unfold wS DS DL ab5;by_cases n:(b,c)∈(dF F f (2*a)).places
 .rw[aD n,pA n];refine⟨aP,λL H=>?_⟩;cases H;unfold zb;rw[A];cases bN f (a+1)with
  |true=>exact m.ins (R true) a
  |false=>exact m.ins (h false) a
 rw[aC n,nr n];by_cases j:(b,c)∈(dF F f (2*a+1)).places
 .rw[aD j,pA j];refine⟨aP,λL H=>?_⟩;cases H;unfold zb;rw[u];cases bN f (a+1)with
  |true=>exact m.ins (h true) a
  |false=>exact m.ins (R false) a
 rw[aC j,nr j];exact⟨rfl,λL H=>by cases H⟩
end
section
variable {F:Nat} {f:ai}
def Ly(e:Nat):(fm f e).2.2=(kY f e).2.2/\((kY f e).2.2->(kY f e).1=aY f (fm f e).2.1/\(kY f e).2.1=aY f (fm f e).1/\(aY f (fm f e).1).kind=1/\(aY f (fm f e).2.1).kind=2/\
  (((fm f e).1=e/\(fm f e).2.1=aJ f e)\/((fm f e).1=aJ f e/\(fm f e).2.1=e))):=by
 unfold fm kY;rw[sL,sL];by_cases H:(aY f e).kind=1
 .have E:((aY f e).kind==2)=false:=by rw[H];rfl
  have g:((aY f e).kind==1):=by rw[H];rfl
  rw[aC (by rw[E];decide),aD g];simp only[g,sf,AH];exact⟨trivial,λh=>⟨trivial,trivial,H,eq_of_beq h,.inl ⟨trivial,trivial⟩⟩⟩
 have g:((aY f e).kind==1)=false:=by rw[sK];exact H
 by_cases j:(aY f e).kind=2
 .have E:((aY f e).kind==2):=by rw[j];rfl
  rw[aD E,aC (by rw[g];decide)];simp only[E,sf];exact⟨trivial,λh=>⟨trivial,trivial,eq_of_beq h,j,.inr ⟨trivial,trivial⟩⟩⟩
 have E:((aY f e).kind==2)=false:=by rw[sK];exact j
 rw[aC (by rw[E];decide),aC (by rw[g];decide)];simp only[g,E,zq];exact⟨trivial,λh=>by cases h⟩
def Vr(h:x<2*I f):oG f x=if x%2=0 then aJ f (x/2)else x/2:=by unfold oG;rw[aC J]
def akq(g:cE F f){w:aF}(M:w∈fz (bz f) (bt f))(qC:(jg F f w).places.length=1)(hx:x∈w)(R:x<2*I f)(hu:oG f x=u){l:aa}(hl:f[u]?=some l)(pl:l.aI):
  ∃y v m,y∈w/\y<2*I f/\oG f (rv y)=v/\f[v]?=some m/\m.aI/\l.gate=m.gate/\(l.ay=m.ay+1\/m.ay=l.ay+1):=by
 have ok:=g.ok;have m:=qS ok;have O:=HI R;have hv:(if x%2=0 then(x/2+1)%I f else x/2)=u:=by rw[<-hu,Vr R]
 rw[hv]at O;have H:=w8 m M hx;rw[O]at H;obtain⟨k,hk,Z⟩:=aoN ok hl pl (x%2==0);have B:I (pI F f k)<=1:=by
  rw[<-qC];unfold jg;rcases Z with⟨e,_⟩|⟨e,_⟩
  .have:=(an1 (F:=F) (f:=f) w (dt.new f (w.headD 0))).2 _ (e▸H) J;rwa[show(2*I f+2*k-2*I f)/2=k by omega]at this
  have:=(an1 (F:=F) (f:=f) w (dt.new f (w.headD 0))).2 _ (e▸H) J;rwa[show(2*I f+2*k+1-2*I f)/2=k by omega]at this
 have lR:=fk (k+1) (show 0<I (aE f) by omega);obtain⟨X,n,Q⟩:=yW hk;obtain⟨Y,j,N⟩:=yW lR;have g1:=g.Tz n Q;have g2:=g.Tz j N;have yL:k+1<I (aE f)/\yE f ((aE f).getD ((k+1)%I (aE f)) 0)<=yE f ((aE f).getD k 0):=by
  unfold pI at B;simp only at B;split at B
  .rename_i h;rw[xB]at B;exact⟨h,J⟩
  rw[gT,xB,xB]at B;omega
 obtain⟨E,D⟩:=yL;rw[jh E]at j D;rw[y_ n,y_ j]at D;have lY:Y.gate<=X.gate:=by have:=g1.g0;have:=g2.g0;omega
 obtain⟨r1,T⟩:=apj ok E rfl rfl n j Q N lY;rcases Z with⟨e,L⟩|⟨e,L⟩
 .rw[e]at H;have A:=w8 m M H;rw[EY,jh E]at A;rw[L,hl]at n;cases n;have z:=(cn.1 j).1;exact⟨_,_,Y,A,Du z,by rw[u9,C8 z],j,N,r1,.inr T⟩
 rw[e]at H;have A:=w8 m M H;rw[D1]at A;rw[jh E]at L;rw[L,hl]at j;cases j;have z:=(cn.1 n).1;exact⟨_,_,X,A,Du z,by rw[u9,C8 z],n,Q,r1.symm,.inl T⟩
def aq7(g:cE F f){w:aF}(B:w∈fz (bz f) (bt f))(E:x∈w)(h:x<2*I f)(D:oG f x=u){l:aa}(hl:f[u]?=some l)(n:l.aB):
  ∃y v m,y∈w/\y<2*I f/\oG f (rv y)=v/\f[v]?=some m/\m.aB:=by
 have ok:=g.ok;have m:=qS ok;have A:=HI h;have L:(if x%2=0 then(x/2+1)%I f else x/2)=u:=by rw[<-D,Vr h]
 rw[L]at A;have z:=w8 m B E;rw[A,yB hl n]at z;obtain⟨_,k,H,M,_⟩:=qM ok.cr hl n;have j:=(cn.1 H).1;exact⟨_,_,k,z,Du j,by rw[u9,C8 j],H,M⟩
def auC{D:aF}(h:I D=2){y:Nat}(f:x∈D)(H:y∈D)(A:x≠y){z:Nat}(g:z∈D):z=x\/z=y:=by
 match D,h with
 |[p,q],_=>simp only[dr,ic,or_false]at f H g;omega
def aj5{l:aa}(h:l.kind=1)(H:l.aB):False:=by rw[ap0 H]at h;cases h
def aBA(g:cE F f){a b:Nat}(ha:a<I f)(hb:b<I f)(fV:a≠b)(ma:(kY f a).2.2)(mb:(kY f b).2.2)(ho:vF F f 1 [a,b]):yX (kY f a).2.1 (kY f b).2.1:=by
 obtain⟨_,p1,p2,O,D⟩:=And.intro (Ly (f:=f) a).1 ((Ly (f:=f) a).2 ma);obtain⟨_,q1,q2,R,A⟩:=And.intro (Ly (f:=f) b).1 ((Ly (f:=f) b).2 mb);rw[p2,q2];unfold vF at ho;obtain⟨ac,hf,h⟩:=G_.1 ho;obtain⟨w,hw,rfl⟩:=dY.1 hf;unfold De at h;simp only[c6,dk,dW,fU,vg,yF,AH,jf]at h;obtain⟨yH,qC,xa,xb⟩:=h;have M:∀x,x∈(jg F f w).bQ↔x∈w/\x<2*I f:=λx=>by rw[AB,rY,iI]
 have ex:∀e,(decide (2*e∈(jg F f w).bQ)==decide (2*e+1∈(jg F f w).bQ))=false->∃d,d∈(jg F f w).bQ/\d/2=e:=by
  intro e h;by_cases u:2*e∈(jg F f w).bQ
  .exact⟨_,u,J⟩
  by_cases n:2*e+1∈(jg F f w).bQ
  .exact⟨_,n,J⟩
  rw[nr u,nr n]at h;cases h
 obtain⟨x,hx,xe⟩:=ex a xa;obtain⟨y,hy,ye⟩:=ex b xb;have nM:x≠y:=λe=>fV (by rw[<-xe,<-ye,e]);obtain⟨xw,xl⟩:=(M x).1 hx;obtain⟨yw,yl⟩:=(M y).1 hy;have only:∀z,z∈w->z<2*I f->z=x\/z=y:=λz u n=>auC yH hx hy nM ((M z).2 ⟨u,n⟩)
 have E:∀ {d e:Nat},d/2=e->d<2*I f->(((fm f e).1=e/\(fm f e).2.1=aJ f e)\/((fm f e).1=aJ f e/\(fm f e).2.1=e))->
   (oG f d=(fm f e).1/\oG f (rv d)=(fm f e).2.1)\/(oG f d=(fm f e).2.1/\oG f (rv d)=(fm f e).1):=by
  intro d e vN xJ T;have hr:=wT xJ;rw[Vr xJ,Vr hr,aqg,vN];rcases tD d with c|c
  .have c':rv d%2=1:=by unfold rv;rw[aD c];omega
   rw[aD c,aC J];rcases T with⟨m,j⟩|⟨m,j⟩<;>rw[m,j]<;>simp
  have c':rv d%2=0:=by unfold rv;rw[aC J];omega
  rw[aC J,aD c'];rcases T with⟨m,j⟩|⟨m,j⟩<;>rw[m,j]<;>simp
 have B:∀ {e:Nat},e<I f->(((fm f e).1=e/\(fm f e).2.1=aJ f e)\/((fm f e).1=aJ f e/\(fm f e).2.1=e))->(fm f e).1<I f/\(fm f e).2.1<I f:=λhe T=>by
  have:=g.Dm ‹Nat›;rcases T with⟨m,j⟩|⟨m,j⟩<;>rw[m,j]
  .exact⟨he,g.Dm _⟩
  exact⟨g.Dm _,he⟩
 obtain⟨qf,pz⟩:=B ha D.2;obtain⟨QZ,ab⟩:=B hb A.2;have hP:=jx qf;have hV:=jx pz;have hQ:=jx QZ;have hW:=jx ab;have AP:=E xe xl D.2;have Ey:=E ye yl A.2;have fin:∀ {P Q:aa},P.kind=1->Q.kind=1->P.gate=Q.gate->(P.ay=Q.ay+1\/Q.ay=P.ay+1)->yX P Q:=λu n h3 h4=>by unfold yX;simp[u,n,h3,h4]
 rcases AP with⟨x1,X⟩|⟨x1,X⟩
 .obtain⟨z,v,mm,L,N,Z,H,pm,r1,r2⟩:=akq g hw qC xw xl x1 hP (Iu O);rcases only z L N with rfl|rfl
  .rw[X]at Z;subst Z;rw[hV]at H;cases H;rw[aap pm]at D;exact absurd D.1 U
  rcases Ey with⟨y1,Y⟩|⟨y1,Y⟩
  .rw[Y]at Z;subst Z;rw[hW]at H;cases H;rw[aap pm]at A;exact absurd A.1 U
  rw[Y]at Z;subst Z;rw[hQ]at H;cases H;exact fin O R r1 r2
 rcases Ey with⟨y1,Y⟩|⟨y1,Y⟩
 .obtain⟨z,v,mm,L,N,Z,H,pm,r1,r2⟩:=akq g hw qC yw yl y1 hQ (Iu R);rcases only z L N with rfl|rfl
  .rw[X]at Z;subst Z;rw[hP]at H;cases H;exact fin O R r1.symm r2.symm
  rw[Y]at Z;subst Z;rw[hW]at H;cases H;rw[aap pm]at A;exact absurd A.1 U
 obtain⟨z,v,mm,L,N,Z,H,cm⟩:=aq7 g hw xw xl x1 hV (BQ D.1);rcases only z L N with rfl|rfl
 .rw[X]at Z;subst Z;rw[hP]at H;cases H;exact absurd cm λh=>aj5 O h
 rw[Y]at Z;subst Z;rw[hQ]at H;cases H;exact absurd cm λh=>aj5 R h
def ac1(x y:aa):my x y↔x=y:=by
 constructor
 .intro h;unfold my at h;simp only[c6,dk]at h;obtain⟨j,f,n,g,m,H⟩:=h;cases x;cases y;simp only at j f n g m H;subst j f n g m H;rfl
 rintro rfl;exact zx x
def amo(g:cE F f){i:Nat}{l:aa}(hl:f[i]?=some l)(h:l.kind=1):l=⟨1,l.gate,l.ay,0,0,false⟩:=by have n:=g.bad l (bR hl);rw[oX (Iu h)]at n;obtain⟨⟨⟨_,j⟩,H⟩,m⟩:=n;cases l;simp only at h j H m |-;subst h j H m;rfl
def awn(g:cE F f){i:Nat}(x:i<I f)(z:j<I f)(B:(aY f i).kind=1)(y:(aY f j).kind=1)(M:(aY f i).gate=(aY f j).gate)(v:(aY f i).ay≠(aY f j).ay):
  (f.set i (aY f j)).set j (aY f i)=f.map (oz (aY f i) (aY f j)):=by
 have A:=jx x;have u:=jx z;have N:i≠j:=λe=>v (by rw[e]);apply yV;intro k;rw[ig,mT,mT,jo];have H:oz (aY f i) (aY f j) (aY f i)=aY f j:=by unfold oz;rw[aD (zx _)]
 have L:oz (aY f i) (aY f j) (aY f j)=aY f i:=by unfold oz;rw[aC (λh=>v (by rw[(ac1 _ _).1 h])),aD (zx _)]
 by_cases E:j=k
 .subst E;rw[aD rfl,aD z,u,rm,L]
 rw[aC E];by_cases n:i=k
 .subst n;rw[aD rfl,aD x,A,rm,H]
 rw[aC n];by_cases D:k<I f
 .have m:=jx D;rw[m,rm];congr 1;unfold oz;rw[aC,aC]
  .intro h;have h:=(ac1 _ _).1 h;exact E (g.one u m (Iu y) (by rw[h];exact Iu y) (by rw[h]) (by rw[h]))
  intro h;have h:=(ac1 _ _).1 h;exact n (g.one A m (Iu B) (by rw[h];exact Iu B) (by rw[h]) (by rw[h]))
 rw[pF J];rfl
def amT{l:cX}{i:Nat}{p:aR}{r:Int}(h:l[i]?=some p):k9 l i r=l.set i {p with l:={p.l with ay:=r}}:=by unfold k9;rw[dC,h];rfl
def ayt(g:cE F f){a b:Nat}(m:a<I f)(v:b<I f)(fV:a≠b):
  (DH F f a b).isSome=Hw F f a b/\
  ∀L,DH F f a b=some L->gH L (gY (gY (f.map (oz (kY f a).2.1 (kY f b).2.1)) a (aJ f a)) b (aJ f b)) (gY (gY (fL f) a (aJ f a)) b (aJ f b)):=by
 have cS:=acI (F:=F) (g:=f) (pl:=1) (E:=[a,b]) rfl m;obtain⟨ea,X⟩:=Ly (f:=f) a;obtain⟨eb,pb⟩:=Ly (f:=f) b;obtain⟨z,pz⟩:=VJ m;obtain⟨M,B⟩:=VJ v;have CG:((fm f a).2.2&&((fm f b).2.2&&(!((fm f a).2.1==(fm f b).2.1)&&(((aV f (fm f a).2.1).l.id==(aV f (fm f b).2.1).l.id)&&r4 F f 1 [a,b] a))))=Hw F f a b:=by
  unfold Hw;rw[ea,eb,cS,sL,sL];cases n:(kY f a).2.2 with
  |false=>rfl
  |true=>
  cases j:(kY f b).2.2 with
  |false=>rfl
  |true=>
  obtain⟨p1,N,u,p4,p5⟩:=X n;obtain⟨q1,Y,x,q4,q5⟩:=pb j;cases h3:vF F f 1 [a,b]with
  |false=>simp
  |true=>
  have H:=aBA g m v fV n j h3;rw[H,p1,q1];simp only[sf,AH];cases h4:((aY f (fm f a).2.1).id==(aY f (fm f b).2.1).id)with
  |false=>simp
  |true=>
  simp only[AH,sf];congr 1;rw[pS,dk,dk];constructor
  .intro e;rw[e]
  intro e;apply Classical.byContradiction;intro A;exact(g.ids.2 _ _ _ _ (jx pz) (jx B) (BQ p4) (BQ q4) (eq_of_beq h4) A).1 e
 unfold DH;rw[CG];refine⟨by split<;>simp_all,λL y=>?_⟩;split at y
 .rename_i D;cases y;unfold Hw at D;simp only[c6]at D;obtain⟨n,j,_,_,H,_⟩:=D;obtain⟨p1,N,u,p4,p5⟩:=X n;obtain⟨q1,Y,x,q4,q5⟩:=pb j;rw[N,Y]at H |-;unfold yX at H;simp only[c6,pB,dk]at H;obtain⟨_,_,E,hr⟩:=H;have TZ:(aY f (fm f a).1).ay≠(aY f (fm f b).1).ay:=J;have A:(fm f a).1≠(fm f b).1:=λe=>TZ (by rw[e])
  have gp:=amo g (jx z) u;have O:=amo g (jx M) x;generalize ji:(fm f a).1=h at*;generalize Gl:(fm f b).1=Q at*;have T:=akj z;have s2:=akj M;have r1:=(gH.base f).set T (q:={aV f h with l:={(aV f h).l with ay:=(aV f Q).l.ay}}) rfl rfl;have Z:((aQ f).set h {aV f h with l:={(aV f h).l with ay:=(aV f Q).l.ay}})[Q]?=some (aV f Q):=by rw[List.getElem?_set_ne A];exact s2
  have R:=r1.set Z (q:={aV f Q with l:={(aV f Q).l with ay:=(aV f h).l.ay}}) rfl rfl;have eL:(f.set h ({(aV f h).l with ay:=(aV f Q).l.ay}:aa)).set Q ({(aV f Q).l with ay:=(aV f h).l.ay}:aa)=f.map (oz (aY f h) (aY f Q)):=by
   rw[<-awn g z M u x E TZ,sL,sL];have x1:({aY f h with ay:=(aY f Q).ay}:aa)=aY f Q:=by rw[gp,O,E]
   have x2:({aY f Q with ay:=(aY f h).ay}:aa)=aY f h:=by rw[gp,O,E]
   rw[x1,x2]
  have eS:k9 (k9 (aQ f) h (aV f Q).l.ay) Q (aV f h).l.ay=((aQ f).set h {aV f h with l:={(aV f h).l with ay:=(aV f Q).l.ay}}).set Q {aV f Q with l:={(aV f Q).l with ay:=(aV f h).l.ay}}:=by rw[amT T,amT Z]
  simp only at R;rw[eL]at R;rw[eS];unfold kJ;simp only[sh,IV];have N0:I (((aQ f).set h {aV f h with l:={(aV f h).l with ay:=(aV f Q).l.ay}}).set Q {aV f Q with l:={(aV f Q).l with ay:=(aV f h).l.ay}})=I f:=by simp[cW]
  rw[NN g N0 m,NN g (by rw[xX,N0]) v];exact(R.sw _ _).sw _ _
 cases y
end
end Go.Abs
