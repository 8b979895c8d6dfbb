/-
  EasePlain: for every code and every limit the call returns true and the arguments read as they did. It holds for every input that the row speaks of; the tables that the row lists hold what the text lays.
-/
import Derived.Test.YthcnadmehopfcaaGreatDoorRh
import Derived.Test.YthcnadmehopfcaaGreatDoorPa
import Derived.Test.YthcnadmehopfcaaGreatDoorTie
import Derived.Deep.DeepHandedRow
import Derived.Deep.DeepLaidRun
import Derived.Stop.LaidErr
import Derived.Test.YthcnadmehopfcaaGreatDoorSb
import Derived.Test.YthcnadmehopfcaaGreatDoorTa
import Derived.Test.YthcnadmehopfcaaGreatDoorFa
import Derived.Test.YthcnadmehopfcaaGreatDoorGa
set_option linter.all false
set_option maxRecDepth 100000
set_option maxHeartbeats 16000000
namespace Go.Abs
theorem ahd{f:Int}{ls:List Let}{n:Int}(hn:n<=1000000):aK S 4 [dR f ls,vi n] (rb (decide ((ls.length:Int)<=n)&&(cQ f ls==0))):=by
 by_cases h:(ls.length:Int)<=n
 .have pc:=akv f ls aa;have hd:decide ((ls.length:Int)<=n)=true:=xx h;rw[hd];generalize cQ f ls=e at*;refine bh c4 ?_;simp only[go_sem,i4,h,s13,dY pc];all_goals(first|done|exact aH|exact⟨aH,rfl⟩|rfl)
 have hd:decide ((ls.length:Int)<=n)=false:=u4 h;rw[hd];refine bh c4 ?_;simp only[go_sem,i4,h];all_goals(first|done|exact aH|exact⟨aH,rfl⟩|rfl)
section
variable {Q:dD} {ak:Env} {aj:aA} {os:List bG} {d:Option Nat}
end
abbrev clR(F:Nat)(l:List (List Let))(wh:Bool):RV:=.tup [.one (aT vc 2 (se F l)),.one (.p (.bool wh)),.one (.p (.int .i64 0))]
theorem apb{F:Nat}{l:List (List Let)}{wh:Bool}{aj:aA}{s:Nat}(h:l≠[])(eG:S.lone s=true):land aj [] s ((clR F l wh).fP (S.lone s))=some (.tup [.one (.p (.sl (se F l))),.one (.p (.bool wh)),.one (.p (.int .i64 0))],[]):=by
 have aI:se F l≠[]:=by simpa [se] using h
 rw[eG];unfold clR;rw[acN aI];rfl
theorem akw{f:Int}{A:List Let}(ck:cQ f A=0):∃F:Nat,f=(F:Int):=by
 by_cases aI:A=[]
 .subst aI;unfold cQ at ck;rw[ay ae] at ck;by_cases hf:f<0\/40<f
  .rw[aF hf] at ck;cases ck
  exact th (show 0<=f by omega)
 obtain⟨F,e,_⟩:=ss ck aI;exact⟨F,e⟩
theorem alO(f:Int)(A B:List Let)(hA:A.length<=1000000)(hB:B.length<=1000000):aK S 10 [dR f A,dR f B] (rb (decide (A=B))):=by
 by_cases hl:A.length=B.length
 .have e1:((A.length:Int)!=(B.length:Int))=false:=by rw[hl];simp
  refine bh c10 ?_;simp only[go_sem,i10,e1];refine cU (fun k ak aj=>ak 2=.one (.aY 640000000 1 0)/\ak 3=.one (.aY 640000064 1 0)/\ak 5=vi k/\aj 640000000=(1,some (.var (tz f A)))/\aj 640000064=(1,some (.var (tz f B)))/\A.take k=B.take k) 0 A.length (bl _) ?_ ?_
  .simp only[go_sem];first|done|rfl
  rintro k ak aj hk ⟨h2,h3,h5,b0,b1,ht⟩
  by_cases au:k<A.length
  .have aL:((k:Int)<(A.length:Int)):=aa;have Wa:k<B.length:=aa;have w1:=cA (n:=k) aa;obtain⟨x,hx⟩:=aM au;obtain⟨y,hy⟩:=aM Wa;have yq:=ia hx;have hyp:=ia hy;have es:=Tz x y;cases he:leq x y with
   |true=>
    rw[he] at es;have jG:=(apx x y).1 he;have JD:A.take (k+1)=B.take (k+1):=by rw[kX,kX,ht,hx,hy,jG]
    simp only[go_sem,i10_l1,h2,h3,h5,b0,b1,au,aL,yq,hyp,Let.ps,w1,es];first|done|exact aH|exact⟨aH,rfl⟩|exact⟨aH,JD⟩|exact⟨aH,rfl,JD⟩|exact⟨JD,aH⟩|trace_state
   |false=>
    rw[he] at es;have aI:decide (A=B)=false:=u4 fun e=>by subst e;rw[hx] at hy;cases hy;rw[GP] at he;cases he
    rw[aI];simp only[go_sem,i10_l1,h2,h3,h5,b0,b1,aL,yq,hyp,Let.ps,es];first|done|exact aH|exact⟨aH,rfl⟩|trace_state
  have:k=A.length:=aa;subst this;have he:decide (A=B)=true:=xx (by rw[fR (bJ _),fR aa] at ht;exact ht);rw[he];simp only[go_sem,i10_l1,i10_r2,h2,h5,b0,dT];first|done|rfl
 have e1:((A.length:Int)!=(B.length:Int))=true:=by simp;omega
 have aI:decide (A=B)=false:=u4 fun e=>hl (by rw[e]);rw[aI];refine bh c10 ?_;simp only[go_sem,i10,e1];first|done|rfl
abbrev aG(w:List Int):PV:=.sl (iP w)
structure VK (w:List Int):Prop where
 even:w.length%2=0
 len:w.length<=400
 gate:∀g∈w,0<=g/\g<=40
theorem avx{g:Int}(h:0<=g/\g<=40):aK S 55 [vi g] (rb false):=by have h1:¬g<0:=aa;have h2:¬g>40:=aa;refine bh c55 ?_;simp only[go_sem,i55,h1,h2]
theorem aoG(o:List Int)(hl:o.length<=1000000){f:Nat}(iv:S.shared f=false)(hd:∀v∈o,aK S f [vi v] (rb false)):
  aK S 82 [.one (.p (aG o)),.one (.p (.fn f [] []))] (ri (-1)):=by
 refine bh c82 ?_;simp only[go_sem,i82];refine cU (fun k ak aj=>ak 0=.one (.p (aG o))/\ak 1=.one (.p (.fn f [] []))/\ak 7=vi o.length/\ak 8=vi k) 0 o.length (bl _) ?_ ?_
 .simp only[go_sem];rfl
 rintro k ak aj hk ⟨h0,h1,h7,h8⟩
 by_cases au:k<o.length
 .have aL:((k:Int)<(o.length:Int)):=aa;obtain⟨v,hv⟩:=aM au;have hJ:=wW hv;have w1:=cA (n:=k) aa;have pd:=hd v (aU hv);simp only[go_sem,i82_l1,h0,h1,h7,h8,au,aL,hJ,iv,dA pd,w1]
 have:k=o.length:=aa;subst this;simp only[go_sem,i82_l1,i82_r2,h7,h8,dT]
theorem akM(o:List Int)(hl:o.length<=1000000){f:Nat}(iv:S.shared f=false)(hd:∀v∈o,aK S f [vi v] (rb false)):
  aK S 54 [.one (.p (aG o)),.one (.p (.fn f [] []))] (rb false):=by
 have pi:=aoG o hl iv hd;refine bh c54 ?_;have sI:¬(0:Int)<= -1:=ae;simp only[go_sem,i54,s82,dY pi,sI]
theorem avB{w:List Int}(h:VK w):aK S 31 [.one (.p (aG w))] (rb true):=by
 have pc:=akM w (by have:=h.len;omega) s55 fun v hv=>avx (h.gate v hv);have h1:((w.length:Int).tmod 2)=0:=by rw[avH aa];have:=h.even;omega
 have h2:(w.length:Int)<=400:=by have:=h.len;omega
 have h0:((0:Int)==0)=true:=rfl;have vl:¬((2:Int)=0):=ae;refine bh c31 ?_;simp only[go_sem,i31,h1,h2,h0,vl,s54,dA pc]
abbrev liT:Nat:=3
def ud(ls:List Let):List Int:=(ls.filter Let.aG).map (·.gate)
theorem avz{ls:List Let}{k:Nat}{x:Let}(h:ls[k]?=some x):ud (ls.take (k+1))=ud (ls.take k)++(if x.aG then [x.gate] else []):=by unfold ud;rw[kX,h,OB,j6];cases hp:x.aG<;>simp[List.filter,hp]
theorem asm{f:Int}{ls:List Let}(h:cQ f ls=0):∃f' x2 x3 x4 x5 x6,Hg f ls=yC (IF f' ls x2 x3 x4 x5 x6) (.int .i64 0):=by
 rw[Kw h];by_cases hl:ls=[]
 .subst hl;exact⟨_,_,_,_,_,_,rfl⟩
 rw[ay hl];exact⟨_,_,_,_,_,_,rfl⟩
theorem avy{f:Int}{ls:List Let}(h:cQ f ls=0)(hl:ls.length<=1000000):aK S 11 [dR f ls] (.tup [.one (aT liT 1 (iP (ud ls))),.one (.p (.int .i64 0))]):=by
 have pr:=Oa f ls hl;obtain⟨f',x2,x3,x4,x5,x6,e⟩:=asm h;rw[e] at pr;have z0:((0:Int)!=0)=false:=rfl;refine bh c11 ?_;simp only[go_sem,i11,s26,cV pr gR,z0];refine cU (fun k ak aj=>ak 21=.one (.p (cK ls))/\ak 22=vi ls.length/\ak 23=vi k/\ ∃c,ak 6=.one c/\grown 704576256 liT 1 (iP (ud (ls.take k))) (.one c) aj) 0 ls.length (bl _) ?_ ?_
 .simp only[go_sem];exact⟨rfl,.p .nils,rfl,grown.nil⟩
 rintro k ak aj hk ⟨zu,rD,lX,c,h6,gc⟩
 by_cases au:k<ls.length
 .obtain⟨x,cP⟩:=aM au;have hi:=ia cP;have aL:((k:Int)<(ls.length:Int)):=aa;have w1:=cA (n:=k) aa;have hs:=avz cP;have jm:(iP (ud (ls.take k))).length<=k:=by
   unfold ud;rw[cD,cD];have:=List.length_filter_le Let.aG (ls.take k);rw[fX] at this;omega
  cases hc:(x.kind==1) with
  |true=>
   have hp:x.aG=true:=hc;rw[hp] at hs;simp only[go_sem,i11_l1,zu,rD,lX,h6,hi,Let.ps,aL,hc];refine sB (site:=704576256) (id:=704576256) (xs:=[[.int .i64 x.gate]]) (rd:=[704576192]) (gc.of_eq (by simp only[aN,Nat.reduceEqDiff,if_false])) (by simp[fh,aN]) (.inl rfl) (by simp only[dh,ez];omega) fun d' bQ gd1 dd=>?_;simp only[go_sem,zu,rD,lX,w1];refine⟨au,d',rfl,?_⟩;rw[hs]
   simpa using gd1
  |false=>
   have hp:x.aG=false:=hc;rw[hp] at hs;simp only[go_sem,i11_l1,zu,rD,lX,h6,hi,Let.ps,au,aL,hc,w1];refine⟨c,rfl,?_⟩;rw[hs]
   simpa using gc.of_eq (by simp only[aN,Nat.reduceEqDiff,if_false])
 have:k=ls.length:=aa;subst this;rw[jQ] at gc;simp only[go_sem,i11_l1,i11_r2,rD,lX,h6,dT];exact wK gc
theorem anb{F:Nat}{ls:List Let}(h:cQ (F:Int) ls=0):VK (ud ls)/\ ∀g∈ud ls,g<=(F:Int):=by
 by_cases aI:ls=[]
 .subst aI;exact⟨⟨rfl,bl _,fun g hg=>(by cases hg)⟩,fun g hg=>(by cases hg)⟩
 obtain⟨F',e,g⟩:=ss h aI;have:F=F':=aa;subst this;have hf:=g.fing;have hl:(ud ls).length=aw Let.aG ls:=by unfold ud aw;rw[cD,Sd]
 have hle:aw Let.aG ls<=ls.length:=KZ;have hg:∀x∈ud ls,0<=x/\x<=(F:Int):=by intro x hx;obtain⟨l,hl,rfl⟩:=dp.1 hx;obtain⟨h1,h2⟩:=uZ.1 hl;have vq:=g.ok.ax.eF l h1 h2;exact⟨vq.g0,vq.g1⟩
 refine⟨⟨by rw[hl];exact g.even,by have:=g.len;omega,fun x hx=>?_⟩,fun x hx=>(hg x hx).2⟩;have:=hg x hx;omega
section
variable {F:Nat} {L:List Let}
abbrev tV(L:List Let):Prop:=aw Let.aC L=0
theorem Q4(g:cH F L)(h:tV L):mB L:=fun x hx=>by
 rcases g.ok.kinds x hx with k|k
 .exact k
 exact absurd k (by have:=Fk.1 h x hx;simpa using this)
theorem aiE(h:mB L):tV L:=Fk.2 fun x hx=>by have:=h x hx;simp[nz this]
theorem QX(h:mB L)(e:Nat):((pA L e).l.kind==2)=false:=by
 unfold pA;rw[di];by_cases he:e<L.length
 .obtain⟨l,hl⟩:=aM he;rw[pM hl];have hp:=h l (aU hl);have hc:=nz hp;exact hc
 rw[ti (by rw[gG];omega)];rfl
theorem ZM(h:mB L)(e:Nat)(o:Bool):jU L e o=false:=by unfold jU;rw[QX h,HB]
theorem aqv(h:mB L){k:Int}(hk:k=3\/k=4\/k=6\/k=8){a b c:Nat}{l o:Bool}{sg:Int}:qu F L k a b c l o sg=none:=by
 rcases hk with rfl|rfl|rfl|rfl
 .show u9 F L a b=none;have:(jx L a).2.2=false:=by
   unfold jx;rw[ay (by rw[QX h];decide)];simp only[QX h,Bool.and_false]
  unfold u9;rw[this,HB];rfl
 .show yv L a=none;unfold yv;have:=QX h a;unfold pA at this;simp only[this,HB];rfl
 .show vO F L a b=none;unfold vO;simp only[ZM h,HB,Bool.or_self];rfl
 show ub F L a b c=none;unfold ub Ho;have:[a,b,c].any (jU L · true)=false:=by simp[ZM h]
 rw[this];simp
theorem SI(g:cH F L)(h:tV L){m:aP}(hk:m.k=3\/m.k=4\/m.k=6\/m.k=8){X:List Let}:jT F L m≠some X:=fun hX=>by obtain⟨_,_,P,hP,_⟩:=Ln g (by unfold k5;omega) hX;rw[aqv (Q4 g h) hk] at hP;cases hP
theorem apT(h:cQ (F:Int) L=0)(hc:tV L):pK F L=[]:=by
 obtain⟨⟨_,aq⟩,_⟩:=ae8 h;refine avI.2 fun m hm=>?_;obtain⟨h1,g,X,hX,_⟩:=aqH h afa (aq m hm);have h1:m.k=3\/m.k=8:=by simpa using h1
 exact SI g hc aa hX
theorem Z7{sb:Bool}{limit:Nat}(hl:1<=limit)(h:cQ (F:Int) L=0)(hc:tV L):fU sb F limit L=(0,[⟨L,cT L,[]⟩]):=by unfold fU;obtain⟨n,rfl⟩:∃n,limit=n+1:=⟨limit-1,aa⟩;rw[Lx (a:=⟨L,cT L,[]⟩) rfl,apT h hc];have e:j8 sb F (n+1) ⟨L,cT L,[]⟩ [⟨L,cT L,[]⟩] []=(0,[⟨L,cT L,[]⟩]):=rfl;rw[e,aF rfl];exact O0 rfl
theorem cut1(g:cH F L){m:aP}(hk:m.k∈vQ)(hc:tV L){X:List Let}(h:jT F L m=some X):m.k=1/\cQ (F:Int) X=0/\tV X:=by
 have hk:m.k=1\/m.k=4\/m.k=6:=by simpa using hk
 have h1:m.k=1:=by
  rcases hk with e|e|e
  .exact e
  .exact absurd h (SI g hc aa)
  exact absurd h (SI g hc aa)
 obtain⟨hX,hA,P,hP,rfl⟩:=Ln g (by unfold k5;omega) h;refine⟨h1,hX,?_⟩;obtain⟨k,a,b,c,l,o,sg⟩:=m;simp only at h1 hA hP;subst h1;obtain⟨av,ha,rfl,rfl,rfl,rfl,rfl,rfl⟩:=(OV (.inl rfl)).1 hA;have kC:EL (fun p=>p.l.aC):=fun p p' h=>by show(p.l.kind==2)=(p'.l.kind==2);rw[h]
 have c2:=NN g kC (show k5 1 by unfold k5;omega) (a:=av) (b:=0) (c:=0) ha (.inr ⟨ae,ae⟩) (.inr ae) hP;have pC:(pieces L).countP (fun p=>p.l.aC)=aw Let.aC L:=by rw[<- N4 (ls:=L) Let.aC];show _=List.countP _ (List.map _ _);rw[Ao];rfl
 rw[pC,hc] at c2;show aw Let.aC (lV P)=0;rw[Vt];exact Nat.le_zero.1 c2
theorem aqx{m:aP}(hk:m.k∈vQ){X:List Let}:jT F [] m≠some X:=fun h=>by
 have hk:m.k=1\/m.k=4\/m.k=6:=by simpa using hk
 unfold jT at h;rw[aF rfl] at h;split at h
 .rename_i hA;obtain⟨bv,k1,_⟩:=ajj hA;omega
 cases h
theorem aso:∀ {ms:List aP} {L M:List Let},cQ (F:Int) L=0->tV L->(∀m∈ms,m.k∈vQ)->te F L ms=some M->(∀m∈ms,m.k=1)/\tV M:=by
 intro ms
 induction ms with
 |nil=>intro L M _ hc _ h;cases h;exact⟨(fun m hm=>by cases hm),hc⟩
 |cons m ms ih=>
  intro L M iW hc hk h;have h:(match jT F L m with|none=>none|some K=>te F K ms)=some M:=h;cases hX:jT F L m with
  |none=>rw[hX] at h;cases h
  |some X=>
   rw[hX] at h;have hm:=hk m af;by_cases aI:L=[]
   .subst aI;exact absurd hX (aqx hm)
   obtain⟨G,e,g⟩:=ss iW aI;have:F=G:=aa;subst this;obtain⟨k1,hXc,hXp⟩:=cut1 g hm hc hX;obtain⟨a,b⟩:=ih hXc hXp (fun y hy=>hk y (by simp[hy])) h;exact⟨fun y hy=>(cM.1 hy).elim (fun e=>e▸k1) (a y),b⟩
theorem ap2{limit:Nat}{A:List Let}(hl:1<=limit)(h:cQ (F:Int) A=0)(hc:tV (cT A)):NL F limit A=(cT (dU F (cT A)).2,(dU F (cT A)).1,true)/\(∀m∈(dU F (cT A)).1,m.k=1)/\tV (dU F (cT A)).2/\cQ (F:Int) (dU F (cT A)).2=0/\Db F (dU F (cT A)).2:=by obtain⟨hR,dk,_⟩:=Oc (EU h);obtain⟨h1,h2⟩:=aso (EU h) hc hR.kind hR.rep;refine⟨?_,h1,h2,hR.chk,dk⟩;have bR:=Z7 (sb:=true) hl hR.chk h2;unfold NL;rw[W7 (by rw[bR];show(0:Nat)≠2;decide),bR];have hb:qE F [(⟨(dU F (cT A)).2,cT (dU F (cT A)).2,[]⟩:cE)]=⟨(dU F (cT A)).2,cT (dU F (cT A)).2,[]⟩:=rfl;show((qE F [_]).n,[]++(dU F (cT A)).1++(qE F [_]).w,true)=_;rw[hb,fY];show(cT _,(dU F (cT A)).1++[],true)=_;rw[jP]
end
def FO(w:List Int):Prop:=∀v,v<w.length->w[v]? ≠w[(v+1)%w.length]?
theorem agK{α:Type}{l:List α}{i v:Nat}(hi:i<=l.length)(hv:v<l.length):(l.drop i++l.take i)[v]?=l[(v+i)%l.length]? :=by
 by_cases h:v<l.length-i
 .rw[uY (by rw[jy];exact h),xu,dV aa,Ld]
 rw[v8 (by rw[jy];omega),jy,kJ,aF aa];congr 1;rw[show v+i=(v+i-l.length)+l.length by omega,qA,dV aa];omega
theorem ak4{l:List Int}{i:Nat}(hi:i<=l.length)(h:FO l):FO (l.drop i++l.take i):=fun v hv=>by
 have hlen:(l.drop i++l.take i).length=l.length:=by rw[ff,jy,fX];omega
 rw[hlen] at hv ⊢;have hn:0<l.length:=aa;rw[agK hi hv,agK hi (dO _ hn)];have:=h ((v+i)%l.length) (dO _ hn);rw[aix] at this;rw[aix,show v+1+i=v+i+1 by omega];exact this
theorem ak3{l:List Int}(h:FO l):FO l.reverse:=fun v hv=>by
 rw[rZ] at hv ⊢;have hn:0<l.length:=aa;by_cases h1:v+1=l.length
 .rw[h1,rh,K6 hv,K6 hn];have:=h (l.length-1) aa;rw[show l.length-1+1=l.length by omega,rh] at this;rw[show l.length-1-v=0 by omega,show l.length-1-0=l.length-1 by omega];exact fun e=>this e.symm
 rw[dV aa,K6 hv,K6 aa];have:=h (l.length-1-(v+1)) aa;rw[show l.length-1-(v+1)+1=l.length-1-v by omega,dV aa] at this;exact fun e=>this e.symm
section
variable {F:Nat} {L:List Let}
theorem am1(f:Int->Int)(l:List Let):(l.map (eW f)).map (·.gate)=l.map (·.gate):=by rw[tm];refine Aq fun x _=>?_;show(eW f x).gate=x.gate;unfold eW;split<;>rfl
theorem aoU(f:Int->Int)(x:Let):(eW f x).aG=x.aG:=by unfold eW;split<;>rfl
theorem amE{l y:List Let}(h:vj l y):∃m:List Int,(m=l.map (·.gate)\/m=(l.map (·.gate)).reverse)/\ ∃i,i<=m.length/\y.map (·.gate)=m.drop i++m.take i:=by
 have key:∀z,tE z y->∃i,i<=(z.map (·.gate)).length/\y.map (·.gate)=(z.map (·.gate)).drop i++(z.map (·.gate)).take i:=fun z ⟨i,hi,_,e⟩=>by obtain⟨f,_,hf⟩:=XI (fj z i);refine⟨i,by rw[cD];omega,?_⟩;rw[e,hf,am1];unfold fj;rw[j6,OF,HH]
 rcases h with h|h
 .exact⟨_,.inl rfl,key l h⟩
 refine⟨_,.inr rfl,?_⟩;have:=key _ h;rwa[Si] at this
theorem acm{l y:List Let}(h:vj l y)(hP:mB l):mB y:=by
 have key:∀z,mB z->tE z y->mB y:=fun z hz ⟨i,_,_,e⟩ x hx=>by obtain⟨f,_,hf⟩:=XI (fj z i);rw[e,hf] at hx;obtain⟨u,hu,rfl⟩:=dp.1 hx;rw[aoU];exact hz u (QH.1 hu)
 rcases h with h|h
 .exact key _ hP h
 exact key _ (fun x hx=>hP x (Sj.1 hx)) h
theorem aqE(h:cQ (F:Int) L=0)(hc:tV L):tV (cT L):=by
 by_cases aI:L=[]
 .subst aI;rfl
 obtain⟨G,e,g⟩:=ss h aI;have:F=G:=aa;subst this;exact aiE (acm g.ES.2.1 (Q4 g hc))
theorem avA(hP:mB L):ud L=L.map (·.gate):=by unfold ud;rw[List.filter_eq_self.2 hP]
theorem ak1(g:cH F L)(hc:tV L)(hn:Db F L):FO (L.map (·.gate)):=fun v hv e=>by
 have hP:=Q4 g hc;rw[cD] at hv e;obtain⟨l,hl⟩:=aM hv;obtain⟨m,hm⟩:=aM (QO g hP hv).1;rw[fQ,fQ,hl,hm] at e;have e:l.gate=m.gate:=by simpa using e
 refine inner g hP (fun v hv l m hl hm e hr=>?_) _ v l m hv hl hm e (bJ _);have pl:=hP l (aU hl);have pm:=hP m (aU hm);have kl:(l.kind==1)=true:=pl;have km:(m.kind==1)=true:=pm;have ha:∃P,wB L v=some P:=by
  unfold wB;have e1:(pieces L).getD v ⟨kz,false⟩=⟨l,iJ L v⟩:=by rw[di,pM hl];rfl
  have e2:(pieces L).getD ((v+1)%L.length) ⟨kz,false⟩=⟨m,iJ L ((v+1)%L.length)⟩:=by rw[di,pM hm];rfl
  have hz:decide (0<aw Let.aC L/2)=false:=u4 (by have:aw Let.aC L=0:=hc;omega);have hg:(l.gate==m.gate)=true:=by simpa using e
  have hx:(uO l.aE m.aE-zZ l.aE m.aE==1)=true:=by unfold uO zZ;rw[dI];rcases hr with h|h<;>(repeat' split)<;>omega
  simp only[e1,e2,kl,km,hg,hx,hz,Bool.and_false,HC,vY,if_true];exact⟨_,rfl⟩
 obtain⟨P,hPm⟩:=ha;have hA:cS F L 1 v 0 0 false false 0=true:=(OV (.inl rfl)).2 ⟨v,hv,rfl,rfl,rfl,rfl,rfl,rfl⟩;have ni:jT F L ⟨1,v,0,0,false,false,0⟩=some (lV P):=by rw[Zo g (show k5 1 by unfold k5;omega)];simp only[hA,if_true];show(wB L v).map lV=_;rw[hPm];rfl
 have:=aiJ g (want:=vQ) ae agx (ms:=[]) hn (m:=⟨1,v,0,0,false,false,0⟩) (La ..) ni;cases this
theorem ak2(h:cQ (F:Int) L=0)(hc:tV L)(hn:Db F L):FO (ud (cT L)):=by
 by_cases aI:L=[]
 .subst aI;exact fun v hv=>absurd hv (by show ¬v<0;omega)
 obtain⟨G,e,g⟩:=ss h aI;have:F=G:=aa;subst this;have hf:=g.ES.2.1;rw[avA (acm hf (Q4 g hc))];obtain⟨m,hm,i,hi,e⟩:=amE hf;rw[e];refine ak4 hi ?_;have:=ak1 g hc hn;rcases hm with rfl|rfl
 .exact this
 exact ak3 this
end
abbrev Hf(es:List (List PV)):PV:=if es=[] then .nils else .sl es
theorem agn(es:List (List PV)):(Hf es).norm=.sl es:=by
 unfold Hf;split
 .rename_i h;rw[h];rfl
 rfl
theorem aqD{F:Nat}{L:List Let}(h:cQ (F:Int) L=0):cT (cT L)=cT L:=by
 by_cases aI:L=[]
 .subst aI;rfl
 obtain⟨G,e,g⟩:=ss h aI;have he:=g.even;obtain⟨_,h2,_⟩:=g.ES;have hf:=al9 he h2;have:gU (cT L)=gU L:=aqA (by have:=hf.2.1;omega) hf;show(gU (cT L)).getD []=_;rw[this];rfl
theorem asq{w:List Int}(h:VK w)(hc:FO w):aK S 12 [.one (.p (aG w))] (rb true):=by
 have pw:=avB h;have hlen:=h.len;refine bh c12 ?_;simp only[go_sem,i12,s31,dA pw];refine cU (fun k ak aj=>ak 0=.one (.p (aG w))/\ak 8=.one (.p (aG w))/\ak 9=vi w.length/\ak 10=vi k) 0 w.length (bl _) ?_ ?_
 .simp only[go_sem];first|done|exact rfl|trace_state
 rintro k ak aj hk ⟨h0,h8,h9,dZ⟩
 by_cases au:k<w.length
 .have aL:((k:Int)<(w.length:Int)):=aa;obtain⟨x,hx⟩:=aM au;have yq:=wW hx;have hm:(k+1)%w.length<w.length:=dO _ aa;obtain⟨y,hy⟩:=aM hm;have hyp:=wW hy;have w1:=cA (n:=k) aa;have hz:¬((w.length:Int)=0):=aa;have ht:(((k+1:Nat)):Int).tmod (w.length:Int)=(((k+1)%w.length:Nat):Int):=uU (k+1) w.length;have jG:(x==y)=false:=by
   have:=hc k au;rw[hx,hy] at this;exact lE.2 fun e=>this (by rw[e])
  simp only[go_sem,i12_l1,h0,h8,h9,dZ,au,aL,yq,hyp,w1,hz,ht,jG];first|done|rfl|trace_state
 have:k=w.length:=aa;subst this;simp only[go_sem,i12_l1,i12_r2,h9,dZ,dT];first|done|rfl|trace_state
theorem aq8{ms:List aP}(h:∀m∈ms,m.k=1){k:Nat}{m:aP}(hk:ms[k]?=some m):(m.k !=1)=false:=by rw[h m (aU hk)];rfl
theorem apf{F:Nat}{x:List Let×List aP×Bool}{aj:aA}{s:Nat}(lo:S.lone s=true):land aj [] s ((GR F x).fP (S.lone s))=some (.tup [.agg [.p (.int .i64 F),.p (cK x.1),.p (Hf (mP x.2.1)),.p (.bool x.2.2)],.one (.p (.int .i64 0))],[]):=by
 rw[lo];unfold GR aT;by_cases h2:mP x.2.1=[]
 .rw[aF h2,h2];rfl
 rw[ay h2];unfold Hf;rw[ay h2];rfl
theorem aeK{w:List Int}{aj:aA}{s:Nat}(lo:S.lone s=true):land aj [] s ((RV.tup [.one (aT liT 1 (iP w)),.one (.p (.int .i64 0))]).fP (S.lone s))=some (.tup [.one (.p (Hf (iP w))),.one (.p (.int .i64 0))],[]):=by
 rw[lo];unfold aT;by_cases h2:iP w=[]
 .rw[aF h2,h2];rfl
 rw[ay h2];unfold Hf;rw[ay h2];rfl
theorem ars(hk:aK S 6 [] (rb true)){f n:Int}{A:List Let}(wS:¬(A.length:Int)<=60\/cQ f A≠0\/n<1\/20000<n\/(A.length<=60/\0<aw Let.aC A/2)):aK S 3 [dR f A,vi n] (rb true):=by
 have ps:=ahd (f:=f) (ls:=A) (n:=60) ae;refine bh c3 ?_;cases hs:(decide ((A.length:Int)<=60)&&(cQ f A==0)) with
 |false=>rw[hs] at ps;simp only[go_sem,i3,s4,dA ps,s6,dA hk];first|done|rfl|trace_state
 |true=>
  rw[hs] at ps;rw[cN] at hs;have h60:=nG hs.1;have iW:cQ f A=0:=by simpa using hs.2
  by_cases a1:n<1
  .simp only[go_sem,i3,s4,dA ps,a1,s6,dA hk];first|done|rfl|trace_state
  by_cases a2:n>20000
  .simp only[go_sem,i3,s4,dA ps,a1,a2,s6,dA hk];first|done|rfl|trace_state
  have hc:0<aw Let.aC A/2:=by
   rcases wS with h|h|h|h|h
   .exact absurd h60 h
   .exact absurd iW h
   .exact absurd h a1
   .exact absurd h a2
   exact h.2
  have pc:=To f A aa;have a3:((aw Let.aC A/2:Nat):Int)>0:=aa;simp only[go_sem,i3,s4,dA ps,a1,a2,s5,dY pc,a3,s6,dA hk];first|done|rfl|trace_state
theorem aph(bR:pX)(hk:aK S 6 [] (rb true))(f:Int)(A:List Let)(n:Int):aK S 3 [dR f A,vi n] (rb true):=by
 by_cases wS:¬(A.length:Int)<=60\/cQ f A≠0\/n<1\/20000<n\/(A.length<=60/\0<aw Let.aC A/2)
 .exact ars hk wS
 have h60:(A.length:Int)<=60:=Decidable.by_contra fun h=>wS (.inl h);have iW:cQ f A=0:=Decidable.by_contra fun h=>wS (.inr (.inl h));have l1:1<=n:=Int.not_lt.1 fun h=>wS (.inr (.inr (.inl h)));have l2:n<=20000:=Int.not_lt.1 fun h=>wS (.inr (.inr (.inr (.inl h))));have oY:aw Let.aC A/2=0:=by have:¬0<aw Let.aC A/2:=fun h=>wS (.inr (.inr (.inr (.inr ⟨aa,h⟩))));omega
 clear wS;obtain⟨F,rfl⟩:=akw iW;obtain⟨k,rfl⟩:=th (show 0<=n by omega);have k1:1<=k:=aa;have k2:k<=20000:=aa;have hA:tV A:=by
  by_cases aI:A=[]
  .subst aI;rfl
  obtain⟨G,e,g⟩:=ss iW aI;have eI:=g.ok.cr;unfold kL at eI;simp only[cN,dI] at eI;have dQ:=eI.1.1;show aw Let.aC A=0;omega
 have hN:=EU iW;have hNp:=aqE iW hA;obtain⟨yf,lM,sM,hm3,hm4⟩:=ap2 (limit:=k) k1 iW hNp;have ps:=ahd (f:=(F:Int)) (ls:=A) (n:=60) ae;have Be:(decide ((A.length:Int)<=60)&&(cQ (F:Int) A==0))=true:=by rw[iW,xx h60];rfl
 rw[Be] at ps;have pc:=To (F:Int) A aa;rw[oY] at pc;have pl:=akz bR k1 k2 iW;rw[Z7 k1 hN hNp] at pl;have pl:aK S 7 [dR F A,vi k] (clR F [cT (cT A)] true):=pl;rw[aqD iW] at pl;have pn:=QM bR (f:=(F:Int)) (ls:=A) aa iW;have a3:(cO (gU A)).norm=cK (cT A):=LD (gU A);have pm:=ap3 bR k1 k2 iW;rw[yf] at pm;have pe:=alO (F:Int) (cT A) (cT A) (by have:=ET A;omega) (by have:=ET A;omega);rw[xx rfl] at pe;have hv:=EU hm3;have pv:=avy hv (by have:=FJ hv;omega);have gw:=(anb hv).1;have pr:=asq gw (ak2 hm3 sM hm4);generalize ud (cT (dU F (cT A)).2)=w at*;have nj:(dU F (cT A)).1.length<=100000000:=by
  obtain⟨K,q1,_⟩:=ap1 bR k1 k2 iW;have hb:(A.length+2)*k<=62*20000:=Nat.mul_le_mul aa k2;have q:=q1.len;rw[yf] at q;have q:(dU F (cT A)).1.length+_<=_:=q;have:=ET A;omega
 generalize (dU F (cT A)).1=ms at*;generalize cT (dU F (cT A)).2=M at*;generalize cO (gU A)=q at*;have lo0:S.lone 192192128=true:=ah;have mR:S.lone 192320128=true:=ah;have uM:S.lone 192832128=true:=ah;have b1:¬((k:Int)<1):=aa;have b2:¬((k:Int)>20000):=aa;have b3:¬(((0:Nat):Int)>0):=aa;have FT:((0:Int)!=0)=false:=ae;have II:((1:Int)!=1)=false:=ae;have e01:((0:Int)==0)=true:=rfl;have e1c:(((1:Nat):Int)!=1)=false:=ae
 have Je:(se F [cT A])[0]?=some [.int .i64 F,cK (cT A)]:=rfl;have l6:=agn (mP ms);have hwn:=agn (iP w);refine bh c3 ?_;simp only[go_sem,i3,s4,dA ps,b1,b2,b3,s5,dY pc,s7,cV pl (apb af lo0),s8,cV pn Qz,a3,s9,cV pm (apf mR),FT,e1c,s10,mE pe];refine⟨aH,?_⟩;generalize hq:Hf (mP ms)=c at*;refine cU (fun i ak aj=>ak 10=.one (.aY 192320384 1 0)/\ak 12=vi i/\aj 192320384=(1,some (.var [.p (.int .i64 F),.p (cK M),.p c,.p (.bool true)]))) 0 ms.length (bl _) ⟨rfl,rfl,rfl⟩ ?_;rintro i ak aj hi ⟨dZ,iT,hb⟩
 by_cases au:i<ms.length
 .have aL:((i:Int)<(ms.length:Int)):=aa;obtain⟨m,hm⟩:=aM au;have Es:=JY hm;have yf:=aq8 lM hm;have w1:=cA (n:=i) aa;have aI:mP ms≠[]:=by
   intro e;have:(mP ms).length=0:=by rw[e];rfl
   rw[cD] at this;omega
  have hc:c=.sl (mP ms):=by rw[<- hq];exact ay aI
  subst hc;simp only[go_sem,i3_l1,dZ,iT,hb,au,aL,Es,aP.ps,yf,w1];first|done|rfl|trace_state
 have:i=ms.length:=aa;subst this;have hz:(c=.nils/\ms.length=0)\/c=.sl (mP ms):=by
  by_cases h2:mP ms=[]
  .refine .inl ⟨by rw[<- hq];exact aF h2,?_⟩;have:(mP ms).length=0:=by rw[h2];rfl
   rwa[cD] at this
  exact .inr (by rw[<- hq];exact ay h2)
 rcases hz with ⟨rfl,hz⟩|rfl
 .have hzi:((ms.length:Nat):Int)=0:=aa;simp only[go_sem,i3_l1,i3_r2,dZ,iT,hb,hzi,(by decide:¬((0:Int)<((0:Nat):Int))),s11,cV pv (aeK uM),hwn,e01,s12,dA pr,s6,dA hk];first|done|rfl|trace_state
 simp only[go_sem,i3_l1,i3_r2,dZ,iT,hb,dT,s11,cV pv (aeK uM),hwn,e01,s12,dA pr,s6,dA hk];first|done|rfl|trace_state
end Go.Abs
namespace Go.Proofs.YthcnadmehopfcaaGreatDoor.fnEasePlain
open Go.Abs Go.ChangeShapes Go.WideShapes Go.ChangeAt Go.RowKit
theorem acV {P : Program} {N n : Nat} {t : TypeId} {fs : Array Field} {p : List PV} (hu : P.underlying t = some (.struct fs)) (h : jR P N (n + 1) t p) :
    ∃parts : List (List PV), p = parts.flatten ∧ parts.length = fs.toList.length ∧ ∀(i : Nat) (f : Field) (x : List PV), fs.toList[i]?= some f → parts[i]?= some x → jR P N n f.type x := by
  simp only [jR, hu] at h;exact h
theorem apH {es : List (List PV)} (h :∀x ∈ es, ∃l : Let, x = l.ps) :∃ls : List Let, es = ls.map Let.ps := by
  induction es with
  | nil => exact ⟨[], rfl⟩
  | cons e es ih =>obtain ⟨l, rfl⟩ := h e (by simp);obtain ⟨ls, rfl⟩ := ih fun x hx => h x (by simp [hx]);exact ⟨l :: ls, rfl⟩
theorem apG {N n : Nat} {p : List PV} (h : jR S.P N (n + 1 + 1) 50 p) :∃l : Let, p = l.ps := by
  obtain ⟨parts, rfl, hl, hp⟩ := acV Tryz.underlying50 h;rcases parts with _ | ⟨p0, _ | ⟨p1, _ | ⟨p2, _ | ⟨p3, _ | ⟨p4, _ | ⟨p5, _ | ⟨p6, r⟩⟩⟩⟩⟩⟩⟩ <;> first
    | (simp at hl; done)
    | skip
  obtain ⟨k, rfl, _⟩ := Gb Tryz.underlying48 (hp 0 _ _ rfl rfl);obtain ⟨g, rfl, _⟩ := Gb Tryz.underlying3 (hp 1 _ _ rfl rfl);obtain ⟨r, rfl, _⟩ := Gb Tryz.underlying3 (hp 2 _ _ rfl rfl);obtain ⟨i, rfl, _⟩ := Gb Tryz.underlying3 (hp 3 _ _ rfl rfl);obtain ⟨s, rfl, _⟩ := Gb Tryz.underlying3 (hp 4 _ _ rfl rfl);obtain ⟨o, rfl⟩ := anr Tryz.underlying4 (hp 5 _ _ rfl rfl);exact ⟨⟨k, g, r, i, s, o⟩, rfl⟩
theorem akI {N n : Nat} {p : List PV} (h : jR S.P N (n + 1 + 1 + 1 + 1) 24 p) :∃(k : Int) (ls : List Let), p = [.int .i64 k,.sl (ls.map Let.ps)] := by
  obtain ⟨parts, rfl, hl, hp⟩ := acV Tryz.underlying24 h;rcases parts with _ | ⟨p0, _ | ⟨p1, _ | ⟨p2, r⟩⟩⟩ <;> first
    | (simp at hl; done)
    | skip
  obtain ⟨k, rfl, _⟩ := Gb Tryz.underlying3 (hp 0 _ _ rfl rfl);obtain ⟨es, rfl, _, he⟩ := ans Tryz.underlying22 (hp 1 _ _ rfl rfl);obtain ⟨ls, rfl⟩ := apH fun x hx => apG (he x hx);exact ⟨k, ls, rfl⟩
theorem law_any (pvss : List (List PV)) (h : OM S.P maxLen 4 Tryz.f3.params.toList pvss) : aK S 3 (BY S.P Tryz.f3.params.toList pvss) (.one (.p (.bool true))) := by
  have hp : Tryz.f3.params.toList = [24, 3] := by rw [Tryz.params3]
  rw [hp] at h ⊢;rcases pvss with _ | ⟨a0, _ | ⟨a1, _ | ⟨a2, z2⟩⟩⟩
  · exact h.elim
  · exact h.2.elim
  · obtain ⟨f0, ls0, rfl⟩ := akI (n := 0) h.1
    obtain ⟨x1, rfl, _⟩ := Gb (n := 3) Tryz.underlying3 h.2.1;have e3 :∀(f : Int) (a : List Let), BX S.P 24 [.int .i64 f,.sl (a.map Let.ps)] = dR f a := fun f a => ajl (P := S.P) Tryz.underlying24;have e1 :∀x : Int, BX S.P 3 [.int .i64 x] = vi x := fun x => ajk (P := S.P) Tryz.underlying3 (fun fs h => by cases h);simp only [BY, e3, e1];exact aph akB ao2 f0 ls0 x1
  · exact h.2.2.elim
theorem gTab : Tryz.prog.globalNamed RP = some 0 := by kernel_rfl
theorem am0 : (Tryz.prog.globals[0]?).map (·.type) = some 210 := by kernel_rfl
theorem akk : Tryz.prog.cellsOf 210 = 20 := by kernel_rfl
theorem akl : Tryz.prog.cellsOf 179 = 1 := by kernel_rfl
/-- what the row's list gives: the table of the powers of ten -/
theorem table {W : World} (h : laidMetH Tryz.prog Rows.easePlainRow.laid W) : G W := by
  have h1 : laidMet Tryz.prog Rows.easePlainRow.laid W := h;have h2 := h1.tail.tail;have e : (Rows.laid_internal_strconv_uint64pow10 : DataW Unit) = Lib.tabData .u64 Lib.pow10Tab := by kernel_rfl
  rw [e] at h2;exact Lib.tabIs_of_head (rest := []) gTab am0 Tryz.underlying210 Tryz.underlying179 akl akk h2
end Go.Proofs.YthcnadmehopfcaaGreatDoor.fnEasePlain
namespace Go.Proofs.YthcnadmehopfcaaGreatDoor.fnEasePlain
open Go.Abs Go.ChangeShapes Go.WideShapes Go.ChangeAt Go.RowKit
theorem own : ownKnob Tryz.prog.godebug = none := by kernel_rfl
theorem akR (H : Type) (enc : TypeId×Value → H) (W : World) (base : Nat) (args : Array Value) (ds gs : List (DataW H)) (before : List MemPlace)
    (hval :∀(j : Nat) t v, Tryz.f3.params[j]?= some t → args[j]?= some v → Value.okWide Tryz.prog W .any base t v)
    (hW : DataW.Whole enc Tryz.prog Tryz.f3.params.toList Rows.easePlainSpec.vars false W args.toList ds gs before) (hL : laidMetH Tryz.prog Rows.easePlainRow.laid W) :
    Calls Tryz.prog 3 args W fun e W' =>∃v, e =.returned v ∧ Rows.easePlainSpec.post enc Tryz.prog Tryz.f3 false true false false W args v W' := by
  have hk :∀t ∈ Tryz.f3.params.toList, jI S.P 4 t = true := by
    rw [Tryz.params3];intro t ht;have e : t = 24 ∨ t = 3 := by simpa using ht
    have k0 : jI S.P 4 24 = true := by kernel_rfl
    have k1 : jI S.P 4 3 = true := by kernel_rfl
    rcases e with e | e
    · exact e ▸ k0
    · exact e ▸ k1
  have hfit :∀d ∈ ds, Fits maxLen d := by obtain ⟨p, q, hA, _⟩ := hW;exact (ahI hk hA).1
  exact apg S_ok (fun w h => ana h) (fn := Tryz.f3) (s := Rows.easePlainSpec) rfl
    (fun H ds hd => by
      rw [Tryz.params3] at hd
      match ds, hd with
      | [d0, d1], _ => rfl) (tb := 4) (by kernel_rfl) Tryz.underlying4 hk law_any hval hW (table hL) hfit

noncomputable def akj (d : DataW Unit) : Array Value :=
  match d with
  | .agg l => (l.map fun
    | .lit (.int k z) => Value.int k z
    | _ => undef).toArray
  | _ => #[]
noncomputable def WV (d : DataW Unit) : Obj → Obj
  | .cells _ t frozen =>.cells (akj d) t frozen
  | o => o
noncomputable def WS (os : Os) : World :={ World.holding Tryz.prog os ⟨#[], #[], []⟩ with heap := (((World.holding Tryz.prog os ⟨#[], #[], []⟩).heap.modify 1 (WV Rows.laid_math_bits_deBruijn32tab)).modify 2 (WV Rows.laid_math_bits_deBruijn64tab)).modify 0 (WV Rows.laid_internal_strconv_uint64pow10) }
theorem ao9 (os : Os) : laidMet Tryz.prog Rows.easePlainRow.laid ((WS os).forCall (fun _ _ => 0) ⟨#[], #[Value.agg #[.int .i64 0,.slice none 0 0],.int .i64 0], []⟩).memory :=laidMet_of_run' 8 (by kernel_rfl) (by kernel_rfl)
theorem reads (os : Os) {H : Type} (enc : TypeId×Value → H) :∃places, DataW.whole enc Tryz.prog ((WS os).forCall (fun _ _ => 0) ⟨#[], #[Value.agg #[.int .i64 0,.slice none 0 0],.int .i64 0], []⟩).memory Tryz.f3.params.toList Rows.easePlainSpec.vars false #[Value.agg #[.int .i64 0,.slice none 0 0],.int .i64 0].toList 8 = some ([.agg [.lit (.int .i64 0),.nil],.lit (.int .i64 0)], [], places) :=
  ⟨[], by kernel_rfl⟩

theorem lifted (os : Os) (started : os.Started) (H : Type) (enc : TypeId×Value → H) (F : Stop.Interp) :
    ReturnsInHanded {} Tryz.checked os 3 .any ((OpenSpec.ofChange Rows.easePlainSpec).preRow enc Tryz.prog Tryz.f3 Rows.easePlainRow.domain false Rows.easePlainRow.laid) (((OpenSpec.ofChange Rows.easePlainSpec).at F).post enc Tryz.prog Tryz.f3 false true false false) := by
  obtain ⟨places, hx⟩ := reads os enc;refine returnsInHanded_of_row (C := Tryz.checked) (s := (OpenSpec.ofChange Rows.easePlainSpec)) own started (by kernel_rfl) Tryz.func3
    (witness_row_at (enc := enc) (C := Tryz.checked) false (WS os) #[Value.agg #[.int .i64 0,.slice none 0 0],.int .i64 0] rfl (by kernel_rfl) (by kernel_rfl) (by kernel_rfl)
      (OpenSpec.preRow_of_cond 8 hx (by kernel_rfl) (fun k hk => by cases hk) (by kernel_rfl) (ao9 os))) ?_
  intro W base args ds gs before hval hW _ _ _ hL _ _;exact akR H enc W base args ds gs before hval hW hL
end Go.Proofs.YthcnadmehopfcaaGreatDoor.fnEasePlain
namespace Go.Proofs.YthcnadmehopfcaaGreatDoor.fnEasePlain
open Go.Abs Go.ChangeShapes Go.WideShapes Go.ChangeAt Go.RowKit
theorem said : Rows.EasePlainSaid :=
  OpenClaim.holds_of_cond 3 Tryz.f3 rfl rfl rfl rfl rfl rfl rfl ⟨rfl, rfl, rfl, rfl, rfl⟩ rfl rfl rfl rfl rfl (by kernel_rfl) Tryz.func3 closed
    (of_decide_eq_true (by kernel_rfl)) (by unfold Func.isWrapper; first | (rw [if_pos (by decide +kernel)]; kernel_rfl) | (rw [if_neg (by decide +kernel)]; exact ⟨rfl, rfl⟩))
    (fun os started H enc _ F => by rw [OpenClaim.pre_eq_preRow]; exact lifted os started H enc F)

theorem plain (f : FuncId) (fn : Func) (hf : Tryz.pinned.checked.prog.funcNamed Rows.easePlainRow.func = some f) (hfn : Tryz.pinned.checked.prog.funcs[f]?= some fn) :
    false = Tryz.pinned.checked.prog.looks [] ∧ ∀(j : Nat) t, fn.params[j]?= some t → Tryz.pinned.checked.prog.wantsStandIn t = false := by
  obtain rfl : f = 3 := Option.some.inj ((show Tryz.prog.funcNamed Rows.easePlainRow.func = some 3 by kernel_rfl).symm.trans hf) |>.symm
  obtain rfl : fn = Tryz.f3 := (Option.some.inj (Tryz.func3.symm.trans hfn)).symm;refine ⟨by kernel_rfl, ?_⟩
  · intro j t ht
    rw [Tryz.params3] at ht;have e : t = 24 ∨ t = 3 := by simpa using Array.mem_of_getElem? ht
    have k0 : Tryz.prog.wantsStandIn 24 = false := by kernel_rfl
    have k1 : Tryz.prog.wantsStandIn 3 = false := by kernel_rfl
    rcases e with e | e
    · exact e ▸ k0
    · exact e ▸ k1

theorem avu : Rows.easePlainRow.wfByText (OpenSpec.ofChange Rows.easePlainSpec) = true := by kernel_rfl
theorem mainIs : Tryz.pinned.checked.prog.mainIs = some ((true, "da6fdfbae7ee9849d3dbec0db624e0e4ea3537890a4708472734601bade463ae").1, (true, "da6fdfbae7ee9849d3dbec0db624e0e4ea3537890a4708472734601bade463ae").2.toList) := by kernel_rfl
theorem card : Rows.EasePlainCardSaid :=Claim7.holds_tied_plain_at .later [] _ _ _ _ said (fun _ h => by cases h) avu (fun _ h => by cases h) easePlain_row_tie rfl ⟨rfl, rfl⟩ mainIs rfl plain goes
end Go.Proofs.YthcnadmehopfcaaGreatDoor.fnEasePlain
